/- The library of a symbolic run and the walks: merged. -/
import Derived.Test.YtoadjlmbdliceaaGreatZPc
/- Walks, printed by a program out of the code of the functions: each theorem is a contract of one function. -/
namespace Go.Proofs.YtoadjlmbdliceaaGreat
open Go Go.Sx
set_option linter.all false
set_option maxRecDepth 20000
set_option maxHeartbeats 4000000
instance T.by_3 : Has (bytesK Tryz.prog 3) ([.int .i64 0], 1, 8) := ⟨by kernel_rfl⟩
instance T.ty_108 : Has (tyK Tryz.prog 108) (false, 1) := ⟨by kernel_rfl⟩
instance T.ty_109 : Has (tyK Tryz.prog 109) (false, 1) := ⟨by kernel_rfl⟩
theorem seChecked (I : IMap) (vc : Value) (c : List Kind) (hvc : RdS I vc c) (hsc : SmC c) (v : Value) (l : List Rep) (hv : RdS I v l) (hl : l.length ≤ 1000000) (hsl : ∀ r ∈ l, ∀ e ∈ r.options, SmE e)  :
    FnV Tryz.prog 48 #[.agg #[vc], v] I (.int .i64 (errF c l)) := by
 obtain ⟨A, c0, rfl, hA, hc, hm⟩ := hv
 refine enter Tryz.func48 Tryz.call48 rfl Tryz.ntmps48 rfl (fun w0 => ?_)
 refine go 3 ?_
 refine o_box _ rfl rfl rfl (fun g2 => ?_)
 refine go 8 ?_
 refine o_callV (catValid _ vc c hvc hsc) rfl rfl ?_
 refine go 3 ?_
 refine cb rfl (fun h11 p11 => ?_) (fun h11 p11 => ?_)
 ·refine go 7 ?_
  refine fin1 rfl rfl ?_
  exact q_v (congrArg (Value.int .i64) (err_cat (by simpa using h11)).symm)
 ·have hC : validC c = true := by simpa using h11
  refine go 16 ?_
  refine sx_drop ?_
  refine c_loop (α := Nat) 0 (fun i => I)
   (fun i => [(5, .int .i64 ((dbtF (l.take i) : Nat) : Int)), (12, .slice A l.length c0), (13, .int .i64 ((l.length : Nat) : Int)), (14, .int .i64 ((i : Nat) : Int))])
   (fun i => [])
   (fun i => i ≤ l.length ∧ ∀ r ∈ l.take i, chs r ≠ 0)
   (fun i => l.length - i) ⟨Nat.zero_le _, fun r hr => by simp at hr⟩ rfl sb rfl ?_
  intro i ⟨hi, hp⟩
  have hdi : dbtF (l.take i) ≤ (l.take i).length := List.length_filter_le _ _
  rw [List.length_take] at hdi
  refine go 6 ?_
  refine cb rfl (fun h15 p15 => ?_) (fun h15 p15 => ?_)
  ·have hlt : i < l.length := by omega
   refine go 6 ?_
   obtain ⟨b16, o16, w16, e16, c16, r16⟩ := RdA.at_ hA (i := i) (by omega)
   obtain ⟨q16, rfl, S16, d16, rfl, hS16, hd16, hm16⟩ := r16
   refine o_v rfl (v_idx he rfl rfl e16 (i) (by omega) (by omega)) ?_
   refine o_v rfl (v_ldIa he rfl c16 rfl) ?_
   refine go 1 ?_
   refine o_alloc he rfl (fun g7 => ?_)
   refine go 1 ?_
   refine o_stw _ he rfl rfl rfl rfl rfl rfl ?_
   refine go 6 ?_
   refine o_callV (repChoices _ l[i] S16 d16 ⟨_, _, rfl, hS16, hd16, hm16⟩ (hsl _ (List.getElem_mem hlt))) rfl rfl ?_
   refine go 11 ?_
   refine cb rfl (fun h20 p20 => ?_) (fun h20 p20 => ?_)
   ·refine go 12 ?_
    refine fin1 rfl rfl ?_
    exact q_v (congrArg (Value.int .i64) (err_any hC hlt (by simpa using h20)).symm)
   ·refine go 7 ?_
    refine cb rfl (fun h23 p23 => ?_) (fun h23 p23 => ?_)
    ·refine go 13 ?_
     refine sx_drop ?_
     exact q_next (i + 1) ⟨by omega, pos_take hlt hp (by simpa using h20)⟩ (by omega) rfl ⟨(congrArg (fun z => some (Value.int .i64 z)) (by rw [dbt_take hlt, if_pos (by omega)]; omega)), rfl, rfl, rfl, trivial⟩ rfl
    ·refine go 9 ?_
     refine sx_drop ?_
     exact q_next (i + 1) ⟨by omega, pos_take hlt hp (by simpa using h20)⟩ (by omega) rfl ⟨(congrArg (fun z => some (Value.int .i64 z)) (by rw [dbt_take hlt, if_neg (by omega)]; omega)), rfl, rfl, rfl, trivial⟩ rfl
  ·have e : i = l.length := by omega
   subst e
   rw [List.take_length] at hp hdi
   rw [List.take_length]
   refine go 12 ?_
   refine cb rfl (fun h30 p30 => ?_) (fun h30 p30 => ?_)
   ·refine go 7 ?_
    refine fin1 rfl rfl ?_
    exact q_v (congrArg (Value.int .i64) (by rw [err_end hC hp, if_pos p30]))
   ·refine go 8 ?_
    refine fin1 rfl rfl ?_
    exact q_v (congrArg (Value.int .i64) (by rw [err_end hC hp, if_neg p30]))

theorem copiedI (I : IMap) (v : Value) (l : List Int) (hv : RdS I v l) (hl : l.length ≤ 1000000) :
    FnX Tryz.prog 83 #[v] I [] (fun u r => r = .row u 3 1 l.length (intCs l)) := by
 refine enter Tryz.func83 Tryz.call83 rfl Tryz.ntmps83 rfl (fun w0 => ?_)
 refine go 8 ?_
 refine o_buildSlice he he rfl rfl rfl rfl rfl rfl rfl (fun v3 => ?_)
 refine go 2 ?_
 refine o_appendR (hv) rfl he he rfl rfl rfl rfl (by omega) (by omega) rfl (fun v5 x5 f5 => ?_)
 refine go 4 ?_
 refine fin1 rfl rfl ?_
 refine sx_roweq (ys := x5) rfl ?_
 rw [Nat.zero_add, flat_ints f5]
 exact q_x rfl

theorem seBack (I : IMap) (g3 g6 gc n : Nat) (k3 : ICells I g3 0 [.slice (some ⟨gc, 0, none⟩) n n]) (ch : List Int) (p : Nat) (hp : p < ch.length) (hn : ch.length = n) :
    FnDf Tryz.prog 84 #[.pointer (some ⟨g3, 0, none⟩), .pointer (some ⟨g6, 0, none⟩)] I [.blk gc 3 (intCs ch), .blk g6 3 [.int .i64 ((p : Nat) : Int)]] (fun I2 H2 => I2 = I ∧ H2 = [.blk gc 3 (intCs (ch.set p (-1))), .blk g6 3 [.int .i64 ((p : Nat) : Int)]]) := by
 refine enterD Tryz.func84 rfl Tryz.ntmps84 rfl (fun w0 => ?_)
 refine go 1 ?_
 refine o_v rfl (v_ldI he rfl (k3 0 _ rfl)) ?_
 refine go 1 ?_
 refine o_v rfl (v_idx he rfl rfl rfl (p) (by omega) (by omega)) ?_
 refine go 1 ?_
 refine o_st1 he rfl rfl rfl (by rw [intCs_len, Nat.blt_eq]; omega) ?_
 refine sx_blkeq (intCs (ch.set (p) (-1))) (by rw [Nat.zero_add, Nat.mul_one, intCs_set]) ?_
 refine go 1 ?_
 refine endD0 rfl ?_
 exact q_post (fun _ m => m) ⟨rfl, rfl⟩

theorem seFrom (I : IMap) (g1 g2 g3 g4 g5 gc : Nat) (vc : Value) (c : List Kind) (hvc : RdS I vc c) (hsc : SmC c) (l : List Rep) (A : Option Addr) (c0 : Nat) (hv : RdS I (.slice A l.length c0) l) (hl : l.length ≤ 1000000) (hsl : ∀ r ∈ l, ∀ e ∈ r.options, SmE e) (ly : Nat) (J : Bool → List (List Int) → IMap → List Res → Prop) (hJm : JMono J) (hY : YieldsS Tryz.prog ly (fun I vs (x : List Int) => ∃ v, vs = [v] ∧ RdS I v x) (fun _ _ => True) J) (k1 : ICells I g1 0 [vc]) (k2 : ICells I g2 0 [.slice A l.length c0]) (k3 : ICells I g3 0 [.slice (some ⟨gc, 0, none⟩) l.length l.length]) (k4 : ICells I g4 0 [.func (.yield ly) #[] #[]]) (k5 : ICells I g5 0 [.func (.func 81) #[] #[.pointer (some ⟨g1, 0, none⟩), .pointer (some ⟨g2, 0, none⟩), .pointer (some ⟨g3, 0, none⟩), .pointer (some ⟨g4, 0, none⟩), .pointer (some ⟨g5, 0, none⟩)]]) (rs : List Rep) (ih : ∀ (I2 : IMap), ILe I I2 → ∀ (pr : List Int) (rr : List Rep), rr.length < rs.length → Mid c l pr rr → ∀ (dn : List (List Int)) (Hq : List Res), J true dn I2 Hq → FnH Tryz.prog 81 #[.int .i64 ((pr.length : Nat) : Int), .pointer (some ⟨g1, 0, none⟩), .pointer (some ⟨g2, 0, none⟩), .pointer (some ⟨g3, 0, none⟩), .pointer (some ⟨g4, 0, none⟩), .pointer (some ⟨g5, 0, none⟩)] I2 (.blk gc 3 (intCs (pr ++ openT rr)) :: Hq) (FromPost c l J gc 3 (pr ++ openT rr) pr rr dn)) (pre : List Int) (hmid : Mid c l pre rs) (ch : List Int) (hch : pre ++ openT rs = ch) (done : List (List Int)) (Hc : List Res) (hJt : J true done I Hc) :
    FnH Tryz.prog 81 #[.int .i64 ((pre.length : Nat) : Int), .pointer (some ⟨g1, 0, none⟩), .pointer (some ⟨g2, 0, none⟩), .pointer (some ⟨g3, 0, none⟩), .pointer (some ⟨g4, 0, none⟩), .pointer (some ⟨g5, 0, none⟩)] I (.blk gc 3 (intCs ch) :: Hc) (FromPost c l J gc 3 ch pre rs done) := by
 have hv0 := hv
 have hA := hv.toA
 have hcl := hmid.chlen hch
 refine enter Tryz.func81 Tryz.call81 rfl Tryz.ntmps81 rfl (fun w0 => ?_)
 refine go 3 ?_
 refine o_box _ rfl rfl rfl (fun g6 => ?_)
 refine go 6 ?_
 refine o_v rfl (v_ldIa he rfl k1 rfl) ?_
 refine o_v rfl (v_ldI he rfl (k2 0 _ rfl)) ?_
 refine o_v rfl (v_ldI he rfl (k3 0 _ rfl)) ?_
 refine go 1 ?_
 refine o_lendI m1 (fun I2 hI hC => hiFalse I2 vc c (hvc.le hI) hsc _ l (hv0.le hI) hl hsl _ ch (intCs_rdn hC hcl hl)) rfl rfl ?_
 refine go 2 ?_
 refine cb rfl (fun h12 p12 => ?_) (fun h12 p12 => ?_)
 ·refine go 7 ?_
  refine fin1 rfl rfl ?_
  refine sx_drop ?_
  exact q_post (fun _ m => m) ⟨true, done, _, rfl, rfl, hJt, fun _ => by rw [res_prune hmid (by rw [hch]; exact h12), List.append_nil], fun h => (by cases h)⟩
 ·refine go 3 ?_
  refine c_cutx2 (Ix := (fun pr rr => I)) (Lx := (fun pr rr => [(1, .pointer (some ⟨g1, 0, none⟩)), (2, .pointer (some ⟨g2, 0, none⟩)), (3, .pointer (some ⟨g3, 0, none⟩)), (4, .pointer (some ⟨g4, 0, none⟩)), (5, .pointer (some ⟨g5, 0, none⟩)), (6, .pointer (some ⟨g6, 0, none⟩))])) (Hx := (fun pr rr => .blk gc 3 (intCs ch) :: .blk g6 3 [.int .i64 ((pr.length : Nat) : Int)] :: Hc)) (p := (fun pr rr => Mid c l pr rr ∧ pr ++ openT rr = ch ∧ resF c l pre rs = resF c l pr rr ∧ rr.length ≤ rs.length ∧ ∀ q0 q1, rr = q0 :: q1 → 1 < chs q0)) ?_ ?_
  ·refine go 1 ?_
   refine bring1 ?_
   refine c_loop2 (pre) (rs) (fun pr rr => I)
    (fun pr rr => [(1, .pointer (some ⟨g1, 0, none⟩)), (2, .pointer (some ⟨g2, 0, none⟩)), (3, .pointer (some ⟨g3, 0, none⟩)), (4, .pointer (some ⟨g4, 0, none⟩)), (5, .pointer (some ⟨g5, 0, none⟩)), (6, .pointer (some ⟨g6, 0, none⟩))])
    (fun pr rr => .blk gc 3 (intCs ch) :: .blk g6 3 [.int .i64 ((pr.length : Nat) : Int)] :: Hc)
    (fun pr rr => Mid c l pr rr ∧ pr ++ openT rr = ch ∧ resF c l pre rs = resF c l pr rr ∧ rr.length ≤ rs.length)
    (fun pr rr => rr.length) ⟨hmid, hch, rfl, Nat.le_refl _⟩ rfl sb rfl ?_
   intro pr rr ⟨hm, hee, hr, hle⟩
   have hml := hm.len
   have hcl := hm.chlen hee
   refine go 4 ?_
   refine o_v rfl (v_ldI he rfl (k2 0 _ rfl)) ?_
   refine go 3 ?_
   refine sxb 17 rfl (fun h17 p17 => ?_) (fun h17 p17 => ?_)
   ·obtain ⟨q0, q1, rfl⟩ := hm.more (by omega)
    have hop := open_at1 hee (by omega)
    have hp1 := hm.pos1
    have hnn := chs_nn q0
    refine o_cons (o_yes rfl rfl h17 (o_val rfl (v_ldI he rfl (k3 0 _ rfl)) ?_))
    refine go 1 ?_
    refine o_cons (o_yes rfl rfl h17 (o_val rfl (v_idx he rfl rfl rfl (pr.length) (by omega) (by omega)) ?_))
    refine o_cons (o_yes rfl rfl h17 (o_val rfl (OV.cast (u := .int .i64 (if 1 < chs q0 then -1 else 0)) (v_ld m0 he rfl (by rw [Nat.zero_add, Nat.mul_one]; exact intCs_at (by omega))) (congrArg (Value.int .i64) hop)) ?_))
    refine go 4 ?_
    refine cb rfl (fun h23 p23 => ?_) (fun h23 p23 => ?_)
    ·have h1c : chs q0 = 1 := by
       by_cases h1 : 1 < chs q0
       · rw [if_pos h1] at p23; omega
       · omega
     refine go 7 ?_
     refine bring1 ?_
     refine o_stw _ he rfl rfl rfl rfl rfl rfl ?_
     refine go 3 ?_
     refine bring1 ?_
     exact q_next2 (pr ++ [0]) (q1) ⟨hm.next (r := q0) (Int.le_refl _) (by omega), by rw [open_zero (r := q0) (by omega)]; exact hee, by rw [hr, res_one h1c], by simp at hle; omega⟩ (by simp) rfl sb (by rw [List.length_append]; rfl)
    ·have h1c : 1 < chs q0 := by
       by_cases h1 : 1 < chs q0
       · exact h1
       · rw [if_neg h1] at p23; omega
     refine go 5 ?_
     exact q_cutx2 (_) (_) ⟨hm, hee, hr, hle, fun _ _ e => by cases e; exact h1c⟩ sb rfl rfl
   ·refine go 8 ?_
    refine c_false rfl ?_
    refine go 5 ?_
    exact q_cutx2 (_) (_) ⟨hm, hee, hr, hle, fun q0 q1 e => by subst e; simp at hml; omega⟩ sb rfl rfl
  ·intro pr rr ⟨hm, hee, hr, hle, h1c⟩
   have hml := hm.len
   have hcl := hm.chlen hee
   refine go 4 ?_
   refine o_v rfl (v_ldI he rfl (k2 0 _ rfl)) ?_
   refine go 4 ?_
   refine cb rfl (fun h29 p29 => ?_) (fun h29 p29 => ?_)
   ·obtain rfl := hm.full (by omega)
    have hpc : pr = ch := by rw [← hee]; simp [openT]
    rw [hpc] at hm hr
    refine go 1 ?_
    refine sx_knowI (fun hE6 hf6 => ?_)
    refine d_startT2 T.mixed ?_
    refine d_tv 0 rfl rfl (by kernel_rfl) rfl (.cons₂ _ (.cons₂ _ (List.nil_sublist _))) rfl (v_ldIa he rfl k1 rfl) ?_
    refine d_tv 1 rfl rfl (by kernel_rfl) rfl (.cons₂ _ (.cons₂ _ (List.nil_sublist _))) rfl (v_ldI he rfl (k2 0 _ rfl)) ?_
    refine d_tv 2 rfl rfl (by kernel_rfl) rfl (.cons₂ _ (.cons₂ _ (List.nil_sublist _))) rfl (v_ldI he rfl (k3 0 _ rfl)) ?_
    refine d_one 3 (by kernel_rfl) rfl ?_
    refine o_lendI m0 (fun I2 hI hC => hiIs I2 vc c (hvc.le hI) hsc _ l (hv0.le hI) hl hsl _ ch (intCs_rdn hC hcl hl)) rfl rfl ?_
    refine d_on (fun _ m => m.keeps (.cons₂ _ (.cons₂ _ (List.nil_sublist _)))) ?_
    refine d_tv 4 rfl rfl (by kernel_rfl) rfl (.cons₂ _ (.cons₂ _ (List.nil_sublist _))) rfl (v_not rfl) ?_
    refine d_tv 5 rfl rfl (by kernel_rfl) rfl (.cons₂ _ (.cons₂ _ (List.nil_sublist _))) rfl (v_move rfl) ?_
    refine sxb 35 rfl (fun h35 p35 => ?_) (fun h35 p35 => ?_)
    ·refine d_t 6 rfl rfl (by kernel_rfl) rfl (fun _ m => m.keeps (.cons₂ _ (.cons₂ _ (List.nil_sublist _)))) (y_no rfl rfl h35) ?_
     refine d_t 7 rfl rfl (by kernel_rfl) rfl (fun _ m => m.keeps (.cons₂ _ (.cons₂ _ (List.nil_sublist _)))) (y_no rfl rfl h35) ?_
     refine d_t 8 rfl rfl (by kernel_rfl) rfl (fun _ m => m.keeps (.cons₂ _ (.cons₂ _ (List.nil_sublist _)))) (y_no rfl rfl h35) ?_
     refine d_t 9 rfl rfl (by kernel_rfl) rfl (fun _ m => m.keeps (.cons₂ _ (.cons₂ _ (List.nil_sublist _)))) (y_no rfl rfl h35) ?_
     refine d_tv 10 rfl rfl (by kernel_rfl) rfl (.cons₂ _ (.cons₂ _ (List.nil_sublist _))) rfl (v_or_t h35 rfl) ?_
     refine d_tv 11 rfl rfl (by kernel_rfl) rfl (.cons₂ _ (.cons₂ _ (List.nil_sublist _))) rfl (v_assign rfl) ?_
     refine d_done (by kernel_rfl) ?_
     refine go 3 ?_
     refine fin1 rfl rfl ?_
     refine bring1 ?_
     refine sx_drop ?_
     exact q_post (fun _ m => m) ⟨true, done, _, rfl, rfl, hJt, fun _ => by rw [hr, res_nil, if_neg (by simpa using h35), List.append_nil], fun h => (by cases h)⟩
    ·refine d_t 6 rfl rfl (by kernel_rfl) rfl (fun _ m => m.keeps (.cons₂ _ (.cons₂ _ (List.nil_sublist _)))) (y_yes rfl rfl h35 (v_ldI he rfl (k4 0 _ rfl))) ?_
     refine d_t 7 rfl rfl (by kernel_rfl) rfl (fun _ m => m.keeps (.cons₂ _ (.cons₂ _ (List.nil_sublist _)))) (y_yes rfl rfl h35 (v_ldI he rfl (k3 0 _ rfl))) ?_
     refine d_one 8 (by kernel_rfl) rfl ?_
     refine o_yes rfl rfl h35 (o_lendX m0 (fun I2 hI hC => copiedI I2 _ ch (intCs_rdn hC hcl hl) (by omega)) rfl rfl (fun v38 s38 q38 => ?_))
     obtain rfl := q38
     refine sx_pubrow (l := ch) rfl rfl (intCs_flat _) (fun I38 j38 R38 => ?_)
     try have hvc := hvc.le j38
     try have hv0 := hv0.le j38
     try have hA := hA.le j38
     try have k1 := k1.le j38
     try have k2 := k2.le j38
     try have k3 := k3.le j38
     try have k4 := k4.le j38
     try have k5 := k5.le j38
     try have hJt := hJt.le j38
     refine d_on (fun _ m => m.keepsI (.cons₂ _ (.cons₂ _ (List.nil_sublist _))) (j38) hE6 hf6) ?_
     refine d_one 9 (by kernel_rfl) rfl ?_
     refine o_yes rfl rfl h35 (o_yield2 (ch) hY (hJm _ _ _ _ _ j38 hJt) (⟨_, rfl, R38⟩) (trivial) rfl rfl rfl (fun b39 I39 Hc39 j39 hJ39 => ?_))
     refine d_on (fun _ m => m.keepsI (.cons₂ _ (.cons₂ _ (List.nil_sublist _))) ((j38).trans j39) hE6 hf6) ?_
     refine d_t 10 rfl rfl (by kernel_rfl) rfl (fun _ m => m.keepsI (.cons₂ _ (.cons₂ _ (List.nil_sublist _))) ((j38).trans j39) hE6 hf6) (y_v rfl (v_or_f h35 rfl rfl)) ?_
     refine d_t 11 rfl rfl (by kernel_rfl) rfl (fun _ m => m.keepsI (.cons₂ _ (.cons₂ _ (List.nil_sublist _))) ((j38).trans j39) hE6 hf6) (y_v rfl (v_assign rfl)) ?_
     refine d_done (by kernel_rfl) ?_
     refine go 3 ?_
     refine fin1 rfl rfl ?_
     refine bring1 ?_
     refine sx_drop ?_
     exact q_post (fun _ m => m) ⟨b39, done ++ [ch], _, rfl, rfl, hJ39, fun _ => by rw [hr, res_nil, if_pos (by simpa using h35)], fun _ => by rw [hr, res_nil, if_pos (by simpa using h35)]; exact List.prefix_refl _⟩
   ·obtain ⟨q0, q1, rfl⟩ := hm.more (by omega)
    have h1c := h1c q0 q1 rfl
    obtain ⟨hpl, rfl⟩ := hm.get
    have hop := open_at1 hee (by omega)
    rw [if_pos h1c] at hop
    have hc5 := chs_five l[pr.length]
    refine go 3 ?_
    refine c_region2D rfl rfl ?_
    refine o_v rfl (v_makeFunc rfl rfl) ?_
    refine go 1 ?_
    refine q_defn rfl rfl ?_
    refine go 4 ?_
    refine o_v rfl (v_ldI he rfl (k2 0 _ rfl)) ?_
    refine go 1 ?_
    obtain ⟨b44, o44, w44, e44, c44, r44⟩ := RdA.at_ hA (i := pr.length) (by omega)
    obtain ⟨q44, rfl, S44, d44, rfl, hS44, hd44, hm44⟩ := r44
    refine o_v rfl (v_idx he rfl rfl e44 (pr.length) (by omega) (by omega)) ?_
    refine o_v rfl (v_ldIa he rfl c44 rfl) ?_
    refine go 1 ?_
    refine o_callV (repChoices _ l[pr.length] S44 d44 ⟨_, _, rfl, hS44, hd44, hm44⟩ (hsl _ (List.getElem_mem hpl))) rfl rfl ?_
    refine go 4 ?_
    refine c_loop5 ((0 : Nat)) (ch) (done) (Hc) (I) (fun k cc dn Hq J2 => J2)
     (fun k cc dn Hq J2 => [(1, .pointer (some ⟨g1, 0, none⟩)), (2, .pointer (some ⟨g2, 0, none⟩)), (3, .pointer (some ⟨g3, 0, none⟩)), (4, .pointer (some ⟨g4, 0, none⟩)), (5, .pointer (some ⟨g5, 0, none⟩)), (6, .pointer (some ⟨g6, 0, none⟩)), (46, .int .i64 (chs l[pr.length])), (47, .int .i64 ((k : Nat) : Int))])
     (fun k cc dn Hq J2 => .blk gc 3 (intCs cc) :: .blk g6 3 [.int .i64 ((pr.length : Nat) : Int)] :: Hq)
     (fun k cc dn Hq J2 => ((k : Nat) : Int) ≤ chs l[pr.length] ∧ (∃ z, cc = ch.set pr.length z) ∧ ILe I J2 ∧ J true dn J2 Hq ∧ dn = done ++ (List.range k).flatMap (fun (q : Nat) => resF c l (pr ++ [(q : Int)]) q1))
     (fun k cc dn Hq J2 => (chs l[pr.length]).toNat - k) ⟨by omega, ⟨_, set_self (by omega)⟩, ILe.refl _, hJt, by simp⟩ rfl sb rfl ?_
    intro k cc dn Hq J2 ⟨hk, ⟨z, hz⟩, hJ2, hJt2, hdn⟩
    subst hz
    have hcz : (ch.set pr.length z).length = ch.length := List.length_set
    have hvc := hvc.le hJ2
    have hv0 := hv0.le hJ2
    have hA := hA.le hJ2
    have k1 := k1.le hJ2
    have k2 := k2.le hJ2
    have k3 := k3.le hJ2
    have k4 := k4.le hJ2
    have k5 := k5.le hJ2
    refine go 6 ?_
    refine cb rfl (fun h48 p48 => ?_) (fun h48 p48 => ?_)
    ·have hkk : ((k : Nat) : Int) < chs l[pr.length] := by omega
     refine go 12 ?_
     refine o_v rfl (v_ldI he rfl (k3 0 _ rfl)) ?_
     refine go 2 ?_
     refine o_v rfl (v_idx he rfl rfl rfl (pr.length) (by omega) (by omega)) ?_
     refine go 1 ?_
     refine o_st1 he rfl rfl rfl (by rw [intCs_len, Nat.blt_eq]; omega) ?_
     refine sx_blkeq (intCs ((pr ++ [((k : Nat) : Int)]) ++ openT q1)) (by rw [Nat.zero_add, Nat.mul_one]; show (intCs _).set _ (ci _) = _; rw [intCs_set, List.set_set, open_set hee]) ?_
     refine go 4 ?_
     refine o_v rfl (v_ldI he rfl (k5 0 _ rfl)) ?_
     refine go 1 ?_
     refine o_v rfl (OV.cast (u := .int .i64 (((pr ++ [((k : Nat) : Int)]).length : Nat) : Int)) (v_add rfl rfl ⟨by omega, by omega⟩) (congrArg (Value.int .i64) (by simp))) ?_
     refine go 1 ?_
     refine bring1 ?_
     refine o_callT (ih J2 hJ2 (pr ++ [((k : Nat) : Int)]) q1 (by simp at hle; omega) (hm.next (by omega) hkk) dn Hq hJt2) rfl rfl (fun v57 I57 H57 j57 q57 => ?_)
     try have hvc := hvc.le j57
     try have hv0 := hv0.le j57
     try have hA := hA.le j57
     try have k1 := k1.le j57
     try have k2 := k2.le j57
     try have k3 := k3.le j57
     try have k4 := k4.le j57
     try have k5 := k5.le j57
     obtain ⟨b57, dn2, Hd, rfl, rfl, hJt3, hbt, hbf⟩ := q57
     refine go 3 ?_
     refine cb rfl (fun h58 p58 => ?_) (fun h58 p58 => ?_)
     ·have hb : b57 = false := by simpa using h58
      refine go 11 ?_
      refine bring1 ?_
      refine q_fdefer (Hc := [_, _]) Tryz.call84 (seBack _ g3 g6 gc l.length k3 ((pr ++ [((k : Nat) : Int)]) ++ openT q1) pr.length (by rw [← open_set hee, List.length_set]; omega) (by rw [← open_set hee, List.length_set]; omega)) (fun I7 H7 j7 q7 => ?_)
      obtain ⟨rfl, rfl⟩ := q7
      refine sx_app2' ?_
      refine fin1 rfl rfl ?_
      refine bring1 ?_
      refine sx_drop ?_
      refine sx_blkeq (intCs ch) (by rw [← open_set hee, set_back (by omega) hop]) ?_
      exact q_post (fun _ m => m) ⟨false, dn2, Hd, rfl, rfl, hb ▸ hJt3, fun h => (by cases h), fun _ => by rw [hr, res_cons]; exact flat_pre (fun (q : Nat) => resF c l (pr ++ [(q : Int)]) q1) done (k := k) (by omega) (by have := hbf hb; rwa [hdn] at this)⟩
     ·have hb : b57 = true := by simpa using h58
      refine go 8 ?_
      refine bring1 ?_
      exact q_next5 (k + 1) (_) (_) (_) (_) ⟨by omega, ⟨_, (open_set hee _).symm⟩, hJ2.trans j57, hb ▸ hJt3, by rw [hbt hb, hdn]; exact flat_next _ _ _⟩ (by omega) rfl sb rfl
    ·refine go 11 ?_
     refine bring1 ?_
     refine bring1 ?_
     refine q_fdefer (Hc := [_, _]) Tryz.call84 (seBack _ g3 g6 gc l.length k3 (ch.set pr.length z) pr.length (by omega) (by omega)) (fun I7 H7 j7 q7 => ?_)
     obtain ⟨rfl, rfl⟩ := q7
     refine sx_app2' ?_
     refine fin1 rfl rfl ?_
     refine bring1 ?_
     refine sx_drop ?_
     refine sx_blkeq (intCs ch) (by rw [set_back (by omega) hop]) ?_
     exact q_post (fun _ m => m) ⟨true, dn, Hq, rfl, rfl, hJt2, fun _ => by rw [hr, res_cons, hdn, show (chs l[pr.length]).toNat = k by omega], fun h => (by cases h)⟩

end Go.Proofs.YtoadjlmbdliceaaGreat

/- The plain laws of searching. -/
set_option linter.all false
namespace Go.Sx
open Go
section
variable {c : List Kind} {l : List Rep}
theorem all_ok {most : Int} (h1 : 1 ≤ most) (h2 : most ≤ 4096) (h : (allF c l most).2 = 0) : errF c l = 0 ∧ histF c l ≠ [] ∧ (allF c l most).1 = (histF c l).take most.toNat := by
  rw [all_code h1 h2] at h
  by_cases he : errF c l = 0
  · rw [if_neg (show ¬ (errF c l ≠ 0) by simp [he])] at h
    refine ⟨he, fun hn => ?_, all_list h1 h2 he⟩
    rw [if_pos hn] at h; cases h
  · rw [if_pos he] at h; exact absurd h he
/-! SearchBegins -/
/-! SearchHistories -/
theorem first_code (c : List Kind) (l : List Rep) : (firstF c l).2 = (allF c l 1).2 := by
  unfold firstF
  split
  · rfl
  · rename_i h; simp only; omega
/-! SearchSure -/
end
end Go.Sx

/- The search: what the exported functions give. -/
set_option linter.all false
namespace Go.Sx
open Go
section
variable {c : List Kind} {l : List Rep} {most : Int}
theorem all_pos (h : (allF c l most).2 = 0) : 0 < (allF c l most).1.length := by
  unfold allF at h ⊢
  split at h
  · cases h
  · rename_i h1
    rw [if_neg h1]
    split at h
    · rename_i h2; exact absurd h h2
    · rename_i h2
      rw [if_neg h2]
      split at h
      · cases h
      · rename_i h3
        rw [if_neg h3]
        exact List.length_pos_iff.2 h3
theorem hd_eq {α : Type} {x : List (List α)} (h : 0 < x.length) : x.headD [] = x[0] := by
  cases x with
  | nil => exact absurd h (Nat.not_lt_zero _)
  | cons a r => rfl
theorem first_no (h : ¬ (allF c l 1).2 = 0) : firstF c l = ([], (allF c l 1).2) := by unfold firstF; rw [if_pos h]
theorem first_yes (h : (allF c l 1).2 = 0) : firstF c l = ((allF c l 1).1[0]'(all_pos h), 0) := by
  unfold firstF
  rw [if_neg (by simpa using h)]
  rw [← hd_eq (all_pos h)]
end
end Go.Sx

/- Walks, printed by a program out of the code of the functions: each theorem is a contract of one function. -/
namespace Go.Proofs.YtoadjlmbdliceaaGreat
open Go Go.Sx
set_option linter.all false
set_option maxRecDepth 20000
set_option maxHeartbeats 4000000
instance T.by_28 : Has (bytesK Tryz.prog 28) ([.slice none 0 0], 1, 24) := ⟨by kernel_rfl⟩
instance T.elt_32 : Has (eltK Tryz.prog 32) (28, 1) := ⟨by kernel_rfl⟩
instance T.ty_32 : Has (tyK Tryz.prog 32) (false, 1) := ⟨by kernel_rfl⟩
instance T.und_32 : Has (Tryz.prog.underlying 32) (.slice 28) := ⟨by kernel_rfl⟩
instance T.zero_109 : Has (zeroK Tryz.prog 109) [.nilFunc] := ⟨by kernel_rfl⟩
instance T.zero_28 : Has (zeroK Tryz.prog 28) [.slice none 0 0] := ⟨by kernel_rfl⟩
instance T.zero_32 : Has (zeroK Tryz.prog 32) [.slice none 0 0] := ⟨by kernel_rfl⟩
theorem seFromI (I : IMap) (g1 g2 g3 g4 g5 gc : Nat) (vc : Value) (c : List Kind) (hvc : RdS I vc c) (hsc : SmC c) (l : List Rep) (A : Option Addr) (c0 : Nat) (hv : RdS I (.slice A l.length c0) l) (hl : l.length ≤ 1000000) (hsl : ∀ r ∈ l, ∀ e ∈ r.options, SmE e) (ly : Nat) (J : Bool → List (List Int) → IMap → List Res → Prop) (hJm : JMono J) (hY : YieldsS Tryz.prog ly (fun I vs (x : List Int) => ∃ v, vs = [v] ∧ RdS I v x) (fun _ _ => True) J) (k1 : ICells I g1 0 [vc]) (k2 : ICells I g2 0 [.slice A l.length c0]) (k3 : ICells I g3 0 [.slice (some ⟨gc, 0, none⟩) l.length l.length]) (k4 : ICells I g4 0 [.func (.yield ly) #[] #[]]) (k5 : ICells I g5 0 [.func (.func 81) #[] #[.pointer (some ⟨g1, 0, none⟩), .pointer (some ⟨g2, 0, none⟩), .pointer (some ⟨g3, 0, none⟩), .pointer (some ⟨g4, 0, none⟩), .pointer (some ⟨g5, 0, none⟩)]]) (n : Nat) : ∀ (I2 : IMap), ILe I I2 → ∀ (rs : List Rep), rs.length < n → ∀ (pre : List Int), Mid c l pre rs → ∀ (dn : List (List Int)) (Hq : List Res), J true dn I2 Hq →
    FnH Tryz.prog 81 #[.int .i64 ((pre.length : Nat) : Int), .pointer (some ⟨g1, 0, none⟩), .pointer (some ⟨g2, 0, none⟩), .pointer (some ⟨g3, 0, none⟩), .pointer (some ⟨g4, 0, none⟩), .pointer (some ⟨g5, 0, none⟩)] I2 (.blk gc 3 (intCs (pre ++ openT rs)) :: Hq) (FromPost c l J gc 3 (pre ++ openT rs) pre rs dn) := by
 induction n with
 | zero => intro _ _ rs h; exact absurd h (Nat.not_lt_zero _)
 | succ n ih =>
  intro I2 hI rs hrs pre hm dn Hq hJ
  exact seFrom I2 g1 g2 g3 g4 g5 gc vc c (hvc.le hI) hsc l A c0 (hv.le hI) hl hsl ly J hJm hY (k1.le hI) (k2.le hI) (k3.le hI) (k4.le hI) (k5.le hI) rs (fun I3 hI3 pr rr hlt hm3 dn3 Hq3 hJ3 => ih I3 (hI.trans hI3) rr (by omega) pr hm3 dn3 Hq3 hJ3) pre hm _ rfl dn Hq hJ

theorem histIt (I : IMap) (vc : Value) (c : List Kind) (hvc : RdS I vc c) (hsc : SmC c) (A : Option Addr) (c0 : Nat) (l : List Rep) (hv : RdS I (.slice A l.length c0) l) (hl : l.length ≤ 1000000) (hsl : ∀ r ∈ l, ∀ e ∈ r.options, SmE e) (hC : validC c = true) (hP : ∀ r ∈ l, chs r ≠ 0) (gl gv : Nat) (k2 : ICells I gl 0 [.slice A l.length c0]) (k1 : ICells I gv 0 [vc]) :
    FnIt Tryz.prog 80 [.pointer (some ⟨gl, 0, none⟩), .pointer (some ⟨gv, 0, none⟩)] I (fun I vs (x : List Int) => ∃ v, vs = [v] ∧ RdS I v x) (fun _ _ => True) (fun pre => pre = histF c l) (fun pre => pre <+: histF c l) := by
 intro ly J I1 Hc hI1 hJm hY hJ0
 have hvc := hvc.le hI1
 have hv := hv.le hI1
 have hA := hv.toA
 have k1 := k1.le hI1
 have k2 := k2.le hI1
 refine enter Tryz.func80 Tryz.call80 rfl Tryz.ntmps80 rfl (fun w0 => ?_)
 refine go 3 ?_
 refine o_box _ rfl rfl rfl (fun g3 => ?_)
 refine go 4 ?_
 refine o_v rfl (v_ldI he rfl (k2 0 _ rfl)) ?_
 refine go 2 ?_
 refine o_makeSlice he he rfl rfl rfl (by omega) (by omega) rfl (fun g10 => ?_)
 refine go 1 ?_
 refine o_alloc he rfl (fun g4 => ?_)
 refine go 1 ?_
 refine o_stw _ he rfl rfl rfl rfl rfl rfl ?_
 refine go 5 ?_
 refine bring1 ?_
 refine sx_blkeq (intCs (openTo' l 0)) ((intCs_rep l.length).trans (by simp [openTo', openT])) ?_
 refine o_v rfl (v_ldI he rfl (k2 0 _ rfl)) ?_
 refine go 5 ?_
 refine c_loop (α := Nat) 0 (fun i => I1)
  (fun i => [(1, .pointer (some ⟨gl, 0, none⟩)), (2, .pointer (some ⟨gv, 0, none⟩)), (3, .pointer (some ⟨g3, 0, none⟩)), (4, .pointer (some ⟨g4, 0, none⟩)), (11, .slice A l.length c0), (12, .int .i64 ((l.length : Nat) : Int)), (13, .int .i64 ((i : Nat) : Int))])
  (fun i => .blk g10 3 (intCs (openTo' l i)) :: .blk g4 28 [.slice (some ⟨g10, 0, none⟩) l.length l.length] :: .blk g3 108 [.func (.yield ly) #[] #[]] :: Hc)
  (fun i => i ≤ l.length)
  (fun i => l.length - i) (Nat.zero_le _) rfl sb rfl ?_
 intro i hi
 have hol := openTo_len l hi
 refine go 6 ?_
 refine cb rfl (fun h14 p14 => ?_) (fun h14 p14 => ?_)
 ·have hlt : i < l.length := by omega
  refine go 7 ?_
  obtain ⟨b16, o16, w16, e16, c16, r16⟩ := RdA.at_ hA (i := i) (by omega)
  obtain ⟨q16, rfl, S16, d16, rfl, hS16, hd16, hm16⟩ := r16
  refine o_v rfl (v_idx he rfl rfl e16 (i) (by omega) (by omega)) ?_
  refine o_v rfl (v_ldIa he rfl c16 rfl) ?_
  refine go 1 ?_
  refine o_alloc he rfl (fun g6 => ?_)
  refine go 2 ?_
  refine o_stw _ he rfl rfl rfl rfl rfl rfl ?_
  refine go 6 ?_
  refine o_callV (repChoices _ l[i] S16 d16 ⟨_, _, rfl, hS16, hd16, hm16⟩ (hsl _ (List.getElem_mem hlt))) rfl rfl ?_
  refine go 3 ?_
  refine cb rfl (fun h20 p20 => ?_) (fun h20 p20 => ?_)
  ·refine go 3 ?_
   refine o_v rfl (v_idx he rfl rfl rfl (i) (by omega) (by omega)) ?_
   refine go 1 ?_
   refine bring1 ?_
   refine o_st1 he rfl rfl rfl (by rw [intCs_len, Nat.blt_eq]; omega) ?_
   refine sx_blkeq (intCs ((openTo' l i).set i (-1))) (by rw [Nat.zero_add, Nat.mul_one, intCs_set]) ?_
   refine go 8 ?_
   refine bring1 ?_
   refine sx_drop ?_
   exact q_next (i + 1) (by omega) (by omega) rfl sb (by rw [openTo_next hlt, if_pos (by omega)])
  ·refine go 8 ?_
   refine sx_drop ?_
   exact q_next (i + 1) (by omega) (by omega) rfl sb (by rw [openTo_next hlt, if_neg (by omega)])
 ·obtain rfl : i = l.length := by omega
  rw [openTo_done]
  refine go 8 ?_
  refine o_alloc he rfl (fun g7 => ?_)
  refine go 4 ?_
  refine o_v rfl (v_makeFunc rfl rfl) ?_
  refine go 1 ?_
  refine o_stw _ he rfl rfl rfl rfl rfl rfl ?_
  refine go 3 ?_
  refine bring3 ?_
  refine sx_pub (fun Ig3 jg3 cg3 => ?_)
  have hvc := hvc.le jg3
  have hv := hv.le jg3
  have k1 := k1.le jg3
  have k2 := k2.le jg3
  have hJ0 := hJm _ _ _ _ _ jg3 hJ0
  refine bring2 ?_
  refine sx_pub (fun Ig4 jg4 cg4 => ?_)
  have hvc := hvc.le jg4
  have hv := hv.le jg4
  have k1 := k1.le jg4
  have k2 := k2.le jg4
  have cg3 := cg3.le jg4
  have hJ0 := hJm _ _ _ _ _ jg4 hJ0
  refine sx_pub (fun Ig7 jg7 cg7 => ?_)
  have hvc := hvc.le jg7
  have hv := hv.le jg7
  have k1 := k1.le jg7
  have k2 := k2.le jg7
  have cg3 := cg3.le jg7
  have cg4 := cg4.le jg7
  have hJ0 := hJm _ _ _ _ _ jg7 hJ0
  refine o_v rfl (v_ldI he rfl (cg7 0 _ rfl)) ?_
  refine go 1 ?_
  refine o_callA (seFromI _ gv gl g4 g3 g7 g10 vc c hvc hsc l A c0 hv hl hsl ly J hJm hY k1 k2 cg4 cg3 cg7 (l.length + 1) _ (ILe.refl _) l (Nat.lt_succ_self _) [] (mid_start hC hP) [] Hc hJ0) rfl rfl (fun v27 I27 H27 j27 q27 => ?_)
  obtain ⟨b27, dn, Hd, rfl, rfl, hJd, hbt, hbf⟩ := q27
  refine go 1 ?_
  refine end0 rfl ?_
  refine sx_drop ?_
  rw [hist_res]
  exact q_it b27 _ hJd (by cases b27 with
    | false => exact hbf rfl
    | true => exact hbt rfl)

theorem seHistories (I : IMap) (A : Option Addr) (m k : Nat) (vc : Value) :
    FnI Tryz.prog 49 #[.agg #[vc], .slice A m k] I (fun u J => ∃ gl gv, u = .func (.func 80) #[] #[.pointer (some ⟨gl, 0, none⟩), .pointer (some ⟨gv, 0, none⟩)] ∧ ICells J gl 0 [.slice A m k] ∧ ICells J gv 0 [vc]) := by
 refine enter Tryz.func49 Tryz.call49 rfl Tryz.ntmps49 rfl (fun w0 => ?_)
 refine go 3 ?_
 refine o_box _ rfl rfl rfl (fun g2 => ?_)
 refine go 1 ?_
 refine o_box _ rfl rfl rfl (fun g3 => ?_)
 refine go 5 ?_
 refine sx_pub (fun Ig3 jg3 cg3 => ?_)
 refine sx_pub (fun Ig2 jg2 cg2 => ?_)
 have cg3 := (cg3).le jg2
 refine o_v rfl (v_makeFunc rfl rfl) ?_
 refine go 4 ?_
 refine fin1 rfl rfl ?_
 exact q_i ⟨_, _, rfl, cg3, cg2⟩

theorem seAll (I : IMap) (vc : Value) (c : List Kind) (hvc : RdS I vc c) (hsc : SmC c) (v : Value) (l : List Rep) (hv : RdS I v l) (hl : l.length ≤ 1000000) (hsl : ∀ r ∈ l, ∀ e ∈ r.options, SmE e) (most : Int) :
    FnI Tryz.prog 19 #[.agg #[vc], v, .int .i64 most] I (fun u J => ∃ w, u = .tuple #[w, .int .i64 (allF c l most).2] ∧ RdS J w (allF c l most).1) := by
 have hv0 := hv
 obtain ⟨A, c0, rfl, hA, hc, hm⟩ := hv
 refine enter Tryz.func19 Tryz.call19 rfl Tryz.ntmps19 rfl (fun w0 => ?_)
 refine go 3 ?_
 refine o_box _ rfl rfl rfl (fun g3 => ?_)
 refine go 1 ?_
 refine o_box _ rfl rfl rfl (fun g5 => ?_)
 refine go 10 ?_
 refine sxb 13 rfl (fun h13 p13 => ?_) (fun h13 p13 => ?_)
 ·refine go 5 ?_
  refine c_true rfl ?_
  refine go 8 ?_
  refine fin2 rfl rfl rfl ?_
  have hr : allF c l most = ([], 1) := by unfold allF; rw [if_pos (by simp; omega)]
  exact q_i ⟨_, by rw [hr], by rw [hr]; exact RdS.nil'⟩
 ·refine go 5 ?_
  refine cb rfl (fun h16 p16 => ?_) (fun h16 p16 => ?_)
  ·refine go 8 ?_
   refine fin2 rfl rfl rfl ?_
   have hr : allF c l most = ([], 1) := by unfold allF; rw [if_pos (by simp; omega)]
   exact q_i ⟨_, by rw [hr], by rw [hr]; exact RdS.nil'⟩
  ·have hb2 : 1 ≤ most ∧ most ≤ 4096 := by omega
   have hb : ¬ (decide (most < 1) || decide (4096 < most)) = true := by simp; omega
   refine go 8 ?_
   refine o_callV (seChecked _ vc c hvc hsc _ l hv0 hl hsl) rfl rfl ?_
   refine go 9 ?_
   refine cb rfl (fun h21 p21 => ?_) (fun h21 p21 => ?_)
   ·refine go 9 ?_
    refine fin2 rfl rfl rfl ?_
    have hr : allF c l most = ([], errF c l) := by unfold allF; rw [if_neg hb, if_pos p21]
    exact q_i ⟨_, by rw [hr], by rw [hr]; exact RdS.nil'⟩
   ·have her : errF c l = 0 := by simpa using h21
    obtain ⟨hC, hP⟩ := err_zero her
    refine go 5 ?_
    refine o_alloc he rfl (fun g9 => ?_)
    refine go 6 ?_
    refine sx_nilrow 28 1 ?_
    refine go 2 ?_
    refine o_call (seHistories _ A _ c0 vc) rfl rfl (fun v25 I25 j25 q25 => ?_)
    have hvc := hvc.le j25
    have hv0 := hv0.le j25
    obtain ⟨gl, gv, rfl, k2, k1⟩ := q25
    refine go 3 ?_
    refine bring2 ?_
    refine bring2 ?_
    refine bring2 ?_
    refine c_range (σ := Option Addr × Nat × List Value) (ps := [26]) (none, 0, []) (fun ⟨A9, c9, xs⟩ => [.row (.slice A9 xs.length c9) 28 1 xs.length xs, .blk g9 32 [.slice A9 xs.length c9], .blk g5 3 [.int .i64 most]]) (fun pre I ⟨A9, c9, xs⟩ => Flat I xs pre ∧ (pre.length : Int) < most) (fun pre I ⟨A9, c9, xs⟩ cd => cd = .exit 0 ∧ Flat I xs pre ∧ (pre.length : Int) = most) rfl Tryz.call80 (histIt _ vc c hvc hsc A c0 l hv0 hl hsl hC hP gl gv k2 k1) (fun I vs x h => by obtain ⟨w, rfl, _⟩ := h; rfl) rfl (fun pre I I' s hI h => by obtain ⟨A9, c9, xs⟩ := s; exact ⟨h.1.le hI, h.2⟩) (fun pre I I' s c hI h => by obtain ⟨A9, c9, xs⟩ := s; exact ⟨h.1, h.2.1.le hI, h.2.2⟩) (⟨.nil, by simp; omega⟩) rfl ?_ ?_ ?_
    ·rintro r E1 pre x vs I1 ⟨A9, c9, xs⟩ hI1 ⟨hF, hlt⟩ ⟨w, rfl, hw⟩ _
     have hw0 := hw
     obtain ⟨B, cB, rfl, _, _, _⟩ := hw
     have hxl : xs.length = pre.length := hF.len.trans (Nat.mul_one _)
     
     refine sx_exp3 ?_
     refine go 3 ?_
     refine r_begin ?_
     refine go 6 ?_
     refine o_buildSlice he he rfl rfl rfl rfl rfl rfl rfl (fun v29 => ?_)
     refine go 1 ?_
     refine bring3 ?_
     refine o_appendO he he rfl rfl rfl rfl rfl (by omega) (by omega) rfl (fun v30 => ?_)
     refine sx_rowslice (fun A30 c30 hv30 => ?_)
     subst hv30
     refine go 1 ?_
     refine bring4 ?_
     refine o_stw _ he rfl rfl rfl rfl rfl rfl ?_
     refine go 10 ?_
     refine cb rfl (fun h34 p34 => ?_) (fun h34 p34 => ?_)
     ·refine go 2 ?_
      refine bring2 ?_
      refine sx_drop ?_
      refine bring4 ?_
      refine bring1 ?_
      refine bring2 ?_
      refine bring4 ?_
      refine bring4 ?_
      exact r_exit ((A30, c30, xs ++ [.slice B x.length cB])) (hI1) (⟨rfl, hF.append (.one ⟨_, rfl, hw0⟩), by simp only [List.length_append, List.length_singleton]; omega⟩) (by simp only [List.length_append, List.length_singleton]; rfl)
     ·refine go 2 ?_
      refine bring2 ?_
      refine sx_drop ?_
      refine bring4 ?_
      refine bring1 ?_
      refine bring2 ?_
      refine bring4 ?_
      refine bring4 ?_
      exact r_next ((A30, c30, xs ++ [.slice B x.length cB])) (hI1) (⟨hF.append (.one ⟨_, rfl, hw0⟩), by simp only [List.length_append, List.length_singleton] at *; omega⟩) (by simp only [List.length_append, List.length_singleton]; rfl)
    ·rintro D pre I1 ⟨A9, c9, xs⟩ hI1 hfull ⟨hF, hlt⟩
     have hxl : xs.length = pre.length := hF.len.trans (Nat.mul_one _)
     have hpre : pre = (histF c l).take most.toNat := by rw [← hfull, List.take_of_length_le (by omega)]
     refine sx_app3 ?_
     refine go 10 ?_
     refine cb rfl (fun h37 p37 => ?_) (fun h37 p37 => ?_)
     ·refine go 8 ?_
      refine q_mark ?_
      refine fin2 rfl rfl rfl ?_
      have hr : allF c l most = ([], 21) := by unfold allF; rw [if_neg hb, if_neg (by simpa using her), if_pos (by rw [← hpre]; exact List.eq_nil_of_length_eq_zero (by omega))]
      exact q_i ⟨_, by rw [hr], by rw [hr]; exact RdS.nil'⟩
     ·refine go 4 ?_
      refine bring1 ?_
      refine sx_pubrow (l := pre) rfl hxl (hF) (fun Ip jp Rp => ?_)
      refine go 6 ?_
      refine q_mark ?_
      refine fin2 rfl rfl rfl ?_
      have hr : allF c l most = (pre, 0) := by unfold allF; rw [if_neg hb, if_neg (by simpa using her), ← hpre, if_neg (fun e => by rw [e, List.length_nil] at hxl; omega)]
      exact q_i ⟨_, by rw [hr], by rw [hr]; exact Rp⟩
    ·rintro D pre I1 ⟨A9, c9, xs⟩ cd hI1 hpart ⟨rfl, hF, heq⟩
     have hxl : xs.length = pre.length := hF.len.trans (Nat.mul_one _)
     have hpre : pre = (histF c l).take most.toNat := by rw [show most.toNat = pre.length by omega]; exact List.prefix_iff_eq_take.1 hpart
     refine sx_app3 ?_
     refine go 11 ?_
     refine cb rfl (fun h37 p37 => ?_) (fun h37 p37 => ?_)
     ·refine go 8 ?_
      refine q_mark ?_
      refine fin2 rfl rfl rfl ?_
      have hr : allF c l most = ([], 21) := by unfold allF; rw [if_neg hb, if_neg (by simpa using her), if_pos (by rw [← hpre]; exact List.eq_nil_of_length_eq_zero (by omega))]
      exact q_i ⟨_, by rw [hr], by rw [hr]; exact RdS.nil'⟩
     ·refine go 4 ?_
      refine bring1 ?_
      refine sx_pubrow (l := pre) rfl hxl (hF) (fun Ip jp Rp => ?_)
      refine go 6 ?_
      refine q_mark ?_
      refine fin2 rfl rfl rfl ?_
      have hr : allF c l most = (pre, 0) := by unfold allF; rw [if_neg hb, if_neg (by simpa using her), ← hpre, if_neg (fun e => by rw [e, List.length_nil] at hxl; omega)]
      exact q_i ⟨_, by rw [hr], by rw [hr]; exact Rp⟩

theorem seFirst (I : IMap) (vc : Value) (c : List Kind) (hvc : RdS I vc c) (hsc : SmC c) (v : Value) (l : List Rep) (hv : RdS I v l) (hl : l.length ≤ 1000000) (hsl : ∀ r ∈ l, ∀ e ∈ r.options, SmE e)  :
    FnI Tryz.prog 17 #[.agg #[vc], v] I (fun u J => ∃ w, u = .tuple #[w, .int .i64 (firstF c l).2] ∧ RdS J w (firstF c l).1) := by
 refine enter Tryz.func17 Tryz.call17 rfl Tryz.ntmps17 rfl (fun w0 => ?_)
 refine go 3 ?_
 refine o_box _ rfl rfl rfl (fun g2 => ?_)
 refine go 9 ?_
 refine o_call (seAll _ vc c hvc hsc _ l hv hl hsl 1) rfl rfl (fun v11 I11 j11 q11 => ?_)
 obtain ⟨w11, rfl, hw11⟩ := q11
 refine go 14 ?_
 refine cb rfl (fun h15 p15 => ?_) (fun h15 p15 => ?_)
 ·refine go 9 ?_
  refine fin2 rfl rfl rfl ?_
  exact q_i ⟨_, by rw [first_no p15]; rfl, by rw [first_no p15]; exact RdS.nil'⟩
 ·have h0 : (allF c l 1).2 = 0 := by simpa using h15
  have hpos := all_pos h0
  obtain ⟨A11, c11, rfl, hA11, hc11, hm11⟩ := hw11
  refine go 5 ?_
  obtain ⟨b18, o18, w18, e18, c18, r18⟩ := RdA.at_ hA11 (i := 0) (by omega)
  obtain ⟨q18, rfl, S18, d18, rfl, hS18, hd18, hm18⟩ := r18
  refine o_v rfl (v_idx he rfl rfl e18 (0) (by omega) (by omega)) ?_
  refine o_v rfl (v_ldI he rfl (c18 0 _ rfl)) ?_
  refine go 5 ?_
  refine fin2 rfl rfl rfl ?_
  exact q_i ⟨_, by rw [first_yes h0]; try rfl, by rw [first_yes h0]; exact ⟨_, _, rfl, hS18, hd18, hm18⟩⟩

end Go.Proofs.YtoadjlmbdliceaaGreat

/- The search: sizes, the greater and the lesser number, the example of its laws. -/
set_option linter.all false
namespace Go.Sx
open Go
section
variable {P : Program} {n : Sz} {E : Ent} {I : IMap} {L : LL} {H : List Res} {d ty t1 t2 : Nat} {pos : String} {af : Array Edge} {x y : Operand} {a b : Int}
theorem v_max (hx : ev L x = some (.int .i64 a)) (hy : ev L y = some (.int .i64 b)) : OV P n E I L H ⟨some d, .call { callee := .builtin .max, args := #[x, y], argTypes := #[t1, t2] }, ty, pos, af, none⟩ (.int .i64 (if b > a then b else a)) :=
  (fun a w st _ => by simp [execOp, st.ev hx, st.ev hy, resolve, invoke, builtin, Builtin.max_, Builtin.max2])
theorem v_min (hx : ev L x = some (.int .i64 a)) (hy : ev L y = some (.int .i64 b)) : OV P n E I L H ⟨some d, .call { callee := .builtin .min, args := #[x, y], argTypes := #[t1, t2] }, ty, pos, af, none⟩ (.int .i64 (if b < a then b else a)) :=
  (fun a w st _ => by simp [execOp, st.ev hx, st.ev hy, resolve, invoke, builtin, Builtin.min_, Builtin.min2])
end
/-- how many combinations there are, as_ it is counted: on as_ long as_ they are not too many -/
def waysGo (most : Int) : Nat → List Rep → Nat
  | n, [] => n
  | n, r :: rs => if ((n : Nat) : Int) ≤ most then waysGo most (n * max 1 (chs r).toNat) rs else n
theorem ways_step {most : Int} {l : List Rep} {i n : Nat} (h : i < l.length) (hn : ((n : Nat) : Int) ≤ most) : waysGo most n (l.drop i) = waysGo most (n * max 1 (chs l[i]).toNat) (l.drop (i + 1)) := by
  rw [List.drop_eq_getElem_cons h, waysGo, if_pos hn]
theorem ways_big {most : Int} {n : Nat} (hn : ¬ ((n : Nat) : Int) ≤ most) : ∀ l : List Rep, waysGo most n l = n
  | [] => rfl
  | r :: l => by rw [waysGo, if_neg hn]
theorem ways_le {most : Int} : ∀ (l : List Rep) (n : Nat), ((waysGo most n l : Nat) : Int) ≤ most → ((n * waysN l : Nat) : Int) ≤ most
  | [], n, h => by simpa [waysGo, waysN] using h
  | r :: l, n, h => by
    rw [waysGo] at h
    split at h
    · have h1 := ways_le l _ h
      have h2 : n * waysN (r :: l) ≤ n * max 1 (chs r).toNat * waysN l := by
        rw [waysN, ← Nat.mul_assoc]
        exact Nat.mul_le_mul_right _ (Nat.mul_le_mul_left _ (Nat.le_max_right _ _))
      omega
    · rename_i h1; exact absurd h h1
/-! choices before others -/
/-! the example -/
end Go.Sx

/- append to a list that nobody owns and that has no room left: a new row. -/
set_option linter.all false
namespace Go.Sx
open Go
section
variable {P : Program} {ρ : Option Nat} {n : Sz} {E : Ent} {I : IMap} {L : LL} {H : List Res} {Q : Exit → Act → World → Prop} {ops : Array Oper} {K : Act → World → Prop}
variable {α : Type} [Enc α] {d ty : Nat} {pos : String} {af : Array Edge} {x y : Operand}
theorem Flat.rda {I : IMap} {g : Nat} {ws : List Value} {l : List α} (hF : Flat I ws l) (hc : ICells I g 0 ws) : RdA I (some ⟨g, 0, none⟩) l := fun _ =>
  ⟨g, 0, rfl, fun i x hi => by
    obtain ⟨vs, h1, h2⟩ := hF.at_ i x hi
    refine ⟨vs, fun j u hu => ?_, h1⟩
    have h3 := hc _ _ (h2 j u hu)
    rw [Nat.zero_add] at h3
    rw [Nat.zero_add]
    exact h3⟩
end
end Go.Sx

/- Walks, printed by a program out of the code of the functions: each theorem is a contract of one function. -/
namespace Go.Proofs.YtoadjlmbdliceaaGreat
open Go Go.Sx
set_option linter.all false
set_option maxRecDepth 20000
set_option maxHeartbeats 4000000
instance T.by_47 : Has (bytesK Tryz.prog 47) ([.slice none 0 0, .bool false], 2, 32) := ⟨by kernel_rfl⟩
instance T.pl_47 : Has (plK Tryz.prog 47) [(0, 1), (1, 1)] := ⟨by kernel_rfl⟩
theorem ref13Ways (I : IMap) (v : Value) (l : List Rep) (hv : RdS I v l) (hl : l.length ≤ 1000000) (hsl : ∀ r ∈ l, ∀ e ∈ r.options, SmE e) (most : Int) (hmo : most ≤ 4096) :
    FnV Tryz.prog 55 #[v, .int .i64 most] I (.int .i64 ((waysGo most 1 l : Nat) : Int)) := by
 obtain ⟨A, c0, rfl, hA, hc, hm⟩ := hv
 refine enter Tryz.func55 Tryz.call55 rfl Tryz.ntmps55 rfl (fun w0 => ?_)
 refine go 17 ?_
 refine c_loop2 (0) (1) (fun i n => I)
  (fun i n => [(0, .slice A l.length c0), (1, .int .i64 most), (5, .int .i64 ((n : Nat) : Int)), (6, .int .i64 ((i : Nat) : Int))])
  (fun i n => [])
  (fun i n => i ≤ l.length ∧ n ≤ 1000000 ∧ waysGo most 1 l = waysGo most n (l.drop i))
  (fun i n => l.length - i) ⟨Nat.zero_le _, by omega, rfl⟩ rfl sb rfl ?_
 intro i n ⟨hi, hn, hw⟩
 refine go 8 ?_
 refine sxb 11 rfl (fun h11 p11 => ?_) (fun h11 p11 => ?_)
 ·refine go 6 ?_
  refine cb rfl (fun h15 p15 => ?_) (fun h15 p15 => ?_)
  ·have hlt : i < l.length := by omega
   have hnm : ((n : Nat) : Int) ≤ most := by omega
   have hc5 := chs_five l[i]
   have hcn := chs_nn l[i]
   have hpn : n * max 1 (chs l[i]).toNat ≤ 4096 * 5 := Nat.mul_le_mul (by omega) (by omega)
   have hpi : (n : Int) * ((max 1 (chs l[i]).toNat : Nat) : Int) = ((n * max 1 (chs l[i]).toNat : Nat) : Int) := (Int.natCast_mul _ _).symm
   generalize hmx : max 1 (chs l[i]).toNat = mx at hpn hpi
   refine go 8 ?_
   obtain ⟨b21, o21, w21, e21, c21, r21⟩ := RdA.at_ hA (i := i) (by omega)
   obtain ⟨q21, rfl, S21, d21, rfl, hS21, hd21, hm21⟩ := r21
   refine o_v rfl (v_idx he rfl rfl e21 (i) (by omega) (by omega)) ?_
   refine o_v rfl (v_ldIa he rfl c21 rfl) ?_
   refine go 1 ?_
   refine o_callV (ref13Choices _ l[i] S21 d21 ⟨_, _, rfl, hS21, hd21, hm21⟩ (hsl _ (List.getElem_mem hlt))) rfl rfl ?_
   refine o_v rfl (OV.cast (u := .int .i64 ((mx : Nat) : Int)) (v_max rfl rfl) (congrArg (Value.int .i64) (by split <;> omega))) ?_
   refine o_v rfl (OV.cast (u := .int .i64 ((n * mx : Nat) : Int)) (v_mul rfl rfl ⟨by omega, by omega⟩) (congrArg (Value.int .i64) (by rw [hpi]))) ?_
   refine go 10 ?_
   exact q_next2 (i + 1) (n * mx) ⟨by omega, by omega, by rw [hw, ways_step hlt (by omega), hmx]⟩ (by omega) rfl sb rfl
  ·refine go 12 ?_
   refine fin1 rfl rfl ?_
   exact q_v (congrArg (Value.int .i64) (by rw [hw, ways_big (by omega)]))
 ·refine go 6 ?_
  refine c_false rfl ?_
  refine go 12 ?_
  refine fin1 rfl rfl ?_
  obtain rfl : i = l.length := by omega
  exact q_v (congrArg (Value.int .i64) (by rw [hw, List.drop_length]; rfl))

end Go.Proofs.YtoadjlmbdliceaaGreat

/- The reference of searching: all choices, one after the other. -/
set_option linter.all false
namespace Go.Sx
open Go
/-- the choices behind some choices -/
def nextF : List Rep → List Int → List Int × Bool
  | r :: l, x :: t => if (nextF l t).2 = true then (x :: (nextF l t).1, true) else if x + 1 < chs r then ((x + 1) :: (nextF l t).1, true) else (0 :: (nextF l t).1, false)
  | _, _ => ([], false)
def zeros (n : Nat) : List Int := List.replicate n 0
/-- a list of choices, each the next one of the one before, from the first one to the last one -/
structure Chn (l : List Rep) (xs : List (List Int)) : Prop where
  pos : 0 < xs.length
  first : xs[0]? = some (zeros l.length)
  step : ∀ k (h : k + 1 < xs.length), nextF l xs[k] = (xs[k + 1], true)
  last : ∀ (h : xs.length - 1 < xs.length), nextF l xs[xs.length - 1] = (zeros l.length, false)
theorem flat_idx {α : Type} {xs : List α} {n m : Nat} (f : Nat → α → List Int) (hm : xs.length = m) : ∀ {q i : Nat} (hq : q < n) (hi : i < m), ((List.range n).flatMap fun k => xs.map (f k))[q * m + i]? = (xs[i]?).map (f q) := by
  induction n with
  | zero => intro q i hq; omega
  | succ n ih =>
    intro q i hq hi
    rw [List.range_succ, List.flatMap_append]
    have hlen : ((List.range n).flatMap fun k => xs.map (f k)).length = n * m := by
      rw [List.length_flatMap]
      simp only [List.length_map, hm]
      rw [List.map_const', List.sum_replicate_nat, List.length_range]
    by_cases h : q < n
    · rw [List.getElem?_append_left (by
        rw [hlen]
        have : (q + 1) * m ≤ n * m := Nat.mul_le_mul_right _ h
        rw [Nat.add_mul] at this; omega)]
      exact ih h hi
    · obtain rfl : q = n := by omega
      rw [List.getElem?_append_right (by rw [hlen]; omega), hlen]
      simp
theorem all_chn : ∀ {l : List Rep}, (∀ r ∈ l, 1 ≤ chs r) → Chn l (allCh l)
  | [], _ => ⟨by simp [allCh], rfl, fun k h => by simp [allCh] at h, fun h => rfl⟩
  | r :: l, hp => by
    have ih := all_chn (l := l) fun x hx => hp x (List.mem_cons_of_mem _ hx)
    have hr := hp r (by simp)
    obtain ⟨m, hm⟩ : ∃ m, (allCh l).length = m := ⟨_, rfl⟩
    obtain ⟨n, hn⟩ : ∃ n, (chs r).toNat = n := ⟨_, rfl⟩
    have hm0 : 0 < m := by rw [← hm]; exact ih.pos
    have hlen : (allCh (r :: l)).length = n * m := by rw [all_len, waysN, hn, ← all_len, hm]
    have hat : ∀ {q i : Nat} (hq : q < n) (hi : i < m), (allCh (r :: l))[q * m + i]? = ((allCh l)[i]?).map fun t => (q : Int) :: t := fun hq hi => by
      rw [allCh, hn]
      exact flat_idx (fun (k : Nat) t => (k : Int) :: t) hm hq hi
    have hn0 : 0 < n := by omega
    have hge : ∀ {k : Nat} (h : k < (allCh (r :: l)).length), ∃ (q i : Nat) (hq : q < n) (hi : i < (allCh l).length), k = q * m + i ∧ (allCh (r :: l))[k] = (q : Int) :: (allCh l)[i] := fun {k} h => by
      rw [hlen] at h
      have hq : k / m < n := (Nat.div_lt_iff_lt_mul hm0).2 h
      have hi : k % m < m := Nat.mod_lt _ hm0
      have he : k = k / m * m + k % m := by rw [Nat.mul_comm]; exact (Nat.div_add_mod k m).symm
      refine ⟨k / m, k % m, hq, by rw [hm]; exact hi, he, ?_⟩
      have h1 := hat hq hi
      rw [← he, List.getElem?_eq_getElem (by rw [hlen]; exact h), List.getElem?_eq_getElem (by rw [hm]; exact hi)] at h1
      exact Option.some.inj h1
    refine ⟨by rw [hlen]; exact Nat.mul_pos hn0 hm0, ?_, fun k h => ?_, fun h => ?_⟩
    · have := hat hn0 hm0
      rw [Nat.zero_mul, Nat.zero_add, ih.first] at this
      rw [this]; simp [zeros, List.replicate_succ]
    · obtain ⟨q, i, hq, hi, hk, e1⟩ := hge (k := k) (by omega)
      rw [e1]
      simp only [nextF]
      rw [hm] at hi
      by_cases hl : i + 1 < m
      · have e2 := ih.step i (by rw [hm]; exact hl)
        rw [e2]
        simp only [if_true]
        have h3 := hat hq hl
        rw [show q * m + (i + 1) = k + 1 by omega, List.getElem?_eq_getElem h, List.getElem?_eq_getElem (by rw [hm]; exact hl)] at h3
        rw [Option.some.inj h3]
      · have hi1 : i = m - 1 := by omega
        have e2 : nextF l ((allCh l)[i]'(by rw [hm]; exact hi)) = (zeros l.length, false) := by
          have := ih.last (by omega)
          simp only [hm] at this
          subst hi1
          exact this
        rw [e2]
        rw [hlen] at h
        have hq1 : q + 1 < n := by
          rcases Nat.lt_or_ge (q + 1) n with h1 | h1
          · exact h1
          · have : n * m ≤ (q + 1) * m := Nat.mul_le_mul_right _ h1
            rw [Nat.add_mul] at this; omega
        have h3 := hat hq1 hm0
        rw [show (q + 1) * m + 0 = k + 1 by rw [Nat.add_mul]; omega, List.getElem?_eq_getElem (by rw [hlen]; exact h), ih.first] at h3
        rw [Option.some.inj h3]
        rw [if_neg (show ¬ (false = true) by decide), if_pos (by omega)]
        simp
    · obtain ⟨q, i, hq, hi, hk, e1⟩ := hge h
      rw [e1]
      rw [hm] at hi
      rw [hlen] at hk
      have hqm : q + 1 = n := by
        rcases Nat.lt_or_ge (q + 1) n with h1 | h1
        · have h2 : (q + 2) * m ≤ n * m := Nat.mul_le_mul_right _ h1
          rw [Nat.add_mul] at h2; omega
        · omega
      have hi1 : i = m - 1 := by
        subst hqm
        rw [Nat.add_mul] at hk; omega
      have e2 : nextF l ((allCh l)[i]'(by rw [hm]; exact hi)) = (zeros l.length, false) := by
        have := ih.last (by omega)
        simp only [hm] at this
        subst hi1
        exact this
      simp only [nextF]
      rw [e2, if_neg (show ¬ (false = true) by decide), if_neg (by omega)]
      simp [zeros, List.replicate_succ]
end Go.Sx

/- The plain law of SearchEvidence: a report with one option alone, or without one. -/
set_option linter.all false
namespace Go.Sx
open Go
/-! valid reports -/
theorem allP_opt (l : List Evt) : ∀ n, n ≤ l.length → (allP optFine l n = true ↔ (l.take n).Nodup ∧ ∀ e ∈ l.take n, validE e = true) := by
  intro n
  induction n with
  | zero => intro _; simp [allP]
  | succ n ih =>
    intro hn
    have hlt : n < l.length := by omega
    have e1 : allP optFine l (n + 1) = (allP optFine l n && optFine (l.take n) l[n]) := by
      simp only [allP, List.range_succ, List.all_append, List.all_cons, List.all_nil, Bool.and_true, List.getElem?_eq_getElem hlt]
    rw [e1, Bool.and_eq_true, ih (by omega), ← take_succ_of hlt]
    have e2 : optFine (l.take n) l[n] = true ↔ ¬ l[n] ∈ l.take n ∧ validE l[n] = true := by
      simp only [optFine, Bool.not_eq_true', Bool.or_eq_false_iff, Bool.not_eq_false', hit_eq]
      rw [List.any_eq_false]
      constructor
      · rintro ⟨h1, h2⟩
        exact ⟨fun h => h1 _ h (by simp), h2⟩
      · rintro ⟨h1, h2⟩
        exact ⟨fun x hx hh => h1 (by have : x = l[n] := by simpa using hh
                                     exact this ▸ hx), h2⟩
    rw [e2, List.nodup_append]
    constructor
    · rintro ⟨⟨h1, h2⟩, h3, h4⟩
      refine ⟨⟨h1, by simp, fun a ha b hb => ?_⟩, fun e he => ?_⟩
      · rw [List.mem_singleton] at hb; rintro rfl; exact h3 (hb ▸ ha)
      · rcases List.mem_append.1 he with he | he
        · exact h2 e he
        · rw [List.mem_singleton] at he; rw [he]; exact h4
    · rintro ⟨⟨h1, _, h3⟩, h4⟩
      exact ⟨⟨h1, fun e he => h4 e (List.mem_append_left _ he)⟩, fun h => h3 _ h _ (List.mem_singleton.2 rfl) rfl, h4 _ (List.mem_append_right _ (List.mem_singleton.2 rfl))⟩
theorem validRep_iff {r : Rep} : validRep r = true ↔ 1 ≤ r.options.length ∧ r.options.length ≤ 4 ∧ r.options.Nodup ∧ ∀ e ∈ r.options, validE e = true := by
  have := allP_opt r.options r.options.length (Nat.le_refl _)
  rw [List.take_length] at this
  unfold validRep
  rw [Bool.and_eq_true, this]
  simp only [Bool.not_eq_true', Bool.or_eq_false_iff, decide_eq_false_iff_not]
  constructor
  · rintro ⟨⟨h1, h2⟩, h3⟩
    exact ⟨by omega, by omega, h3⟩
  · rintro ⟨h1, h2, h3⟩
    exact ⟨⟨by omega, by omega⟩, h3⟩
theorem validRep_sub {r q : Rep} (h : validRep r = true) (hs : q.options.Sublist r.options) (h1 : 1 ≤ q.options.length) : validRep q = true := by
  obtain ⟨_, h3, h4, h5⟩ := validRep_iff.1 h
  exact validRep_iff.2 ⟨h1, Nat.le_trans hs.length_le h3, h4.sublist hs, fun e he => h5 e (hs.mem he)⟩
/-- the report with one of its options alone -/
def oneOf (r : Rep) (j : Nat) : Rep := ⟨r.options[j]?.toList, false⟩
section
variable {r : Rep} {j : Nat}
theorem one_opts (h : j < r.options.length) : (oneOf r j).options = [r.options[j]] := by simp [oneOf, h]
theorem one_valid (hv : validRep r = true) (h : j < r.options.length) : validRep (oneOf r j) = true := by
  refine validRep_sub hv ?_ (by rw [one_opts h]; simp)
  rw [one_opts h]; exact List.singleton_sublist.2 (List.getElem_mem h)
theorem one_chs (hv : validRep r = true) (h : j < r.options.length) : chs (oneOf r j) = 1 := by
  simp [chs, one_valid hv h, one_opts h]; simp [oneOf]
theorem one_opt (h : j < r.options.length) (d : Int) : optAt d (oneOf r j) 0 = optAt d r (j : Nat) := by
  simp [optAt, one_opts h, h]
end
/-! all choices, where one report is another one -/
theorem all_mid (A B : List Rep) (r : Rep) : allCh (A ++ r :: B) = (allCh A).flatMap fun a => ((List.range (chs r).toNat).map fun (k : Nat) => (k : Int)).flatMap fun x => (allCh B).map fun b => a ++ x :: b := by
  induction A with
  | nil =>
    simp only [List.nil_append, allCh, List.flatMap_cons, List.flatMap_nil, List.append_nil, List.flatMap_map]
  | cons q A ih =>
    simp only [List.cons_append, allCh, ih, List.flatMap_assoc, List.map_flatMap, List.flatMap_map, List.map_map]
    congr 1
/-- choices whose one at an index is another one -/
def chAt (k : Nat) (f : Int → Int) (t : List Int) : List Int := t.set k (f (t.getD k 0))
theorem at_app {a b : List Int} {x : Int} {k : Nat} {f : Int → Int} (h : a.length = k) : chAt k f (a ++ x :: b) = a ++ f x :: b := by
  subst h
  simp [chAt, List.getD]
theorem getD_app {a b : List Int} {x : Int} {k : Nat} (h : a.length = k) : (a ++ x :: b).getD k 0 = x := by
  subst h
  simp [List.getD]
theorem flat_pick {a : List Int} {k : Nat} (h : a.length = k) (P : Int → Bool) (f : Int → Int) (ys : List (List Int)) : ∀ xs : List Int, (((xs.flatMap fun x => ys.map fun b => a ++ x :: b).filter fun t => P (t.getD k 0)).map (chAt k f)) = ((xs.filter P).map f).flatMap fun x => ys.map fun b => a ++ x :: b
  | [] => rfl
  | x :: xs => by
    rw [List.flatMap_cons, List.filter_append, List.map_append, flat_pick h P f ys xs, List.filter_map, List.filter_cons]
    have e : ((fun t => P (t.getD k 0)) ∘ fun b => a ++ x :: b) = fun _ => P x := by
      funext b; simp only [Function.comp_apply]; rw [getD_app h]
    rw [e]
    by_cases hp : P x = true
    · rw [if_pos hp, List.map_cons, List.flatMap_cons, show ys.filter (fun _ => P x) = ys from List.filter_eq_self.2 fun _ _ => hp]
      congr 1
      rw [List.map_map]
      refine List.map_congr_left fun b _ => ?_
      simp only [Function.comp_apply]; rw [at_app h]
    · rw [if_neg hp]
      have : ys.filter (fun _ => P x) = [] := by rw [List.filter_eq_nil_iff]; intro _ _; exact hp
      rw [this]; rfl
section
variable {c : List Kind} {A B : List Rep} {r r' : Rep} {P : Int → Bool} {f : Int → Int} {k : Nat}
theorem flat_congr {α β : Type} {f g : α → List β} : ∀ {l : List α}, (∀ x ∈ l, f x = g x) → l.flatMap f = l.flatMap g
  | [], _ => rfl
  | x :: l, h => by rw [List.flatMap_cons, List.flatMap_cons, h x (by simp), flat_congr fun y hy => h y (by simp [hy])]
theorem all_swap (hk : A.length = k) (h : (((List.range (chs r).toNat).map fun (k : Nat) => (k : Int)).filter P).map f = (List.range (chs r').toNat).map fun (k : Nat) => (k : Int)) :
    allCh (A ++ r' :: B) = ((allCh (A ++ r :: B)).filter fun t => P (t.getD k 0)).map (chAt k f) := by
  rw [all_mid, all_mid, List.filter_flatMap, List.map_flatMap]
  refine flat_congr fun a ha => ?_
  rw [flat_pick ((all_mem.1 ha).1.trans hk) P f, h]
theorem mid_mem {t : List Int} (h : t ∈ allCh (A ++ r :: B)) : ∃ a x b, t = a ++ x :: b ∧ a.length = A.length ∧ b.length = B.length ∧ 0 ≤ x ∧ x < chs r := by
  rw [all_mid] at h
  obtain ⟨a, ha, h⟩ := List.mem_flatMap.1 h
  obtain ⟨x, hx, h⟩ := List.mem_flatMap.1 h
  obtain ⟨b, hb, rfl⟩ := List.mem_map.1 h
  obtain ⟨q, hq, rfl⟩ := List.mem_map.1 hx
  have := List.mem_range.1 hq
  exact ⟨a, _, b, rfl, (all_mem.1 ha).1, (all_mem.1 hb).1, by omega, by omega⟩
theorem is_pick {l l' : List Rep} {ch ch' : List Int} (h1 : givenF c l ch 0 = true) (h2 : givenF c l' ch' 0 = true) (h : pickE 40001 l ch = pickE 40001 l' ch') : isF c l ch = isF c l' ch' := by rw [is_ev h1, is_ev h2, h]
theorem pick_mid {a b : List Int} {x : Int} (h : a.length = A.length) (d : Int) : pickE d (A ++ r :: B) (a ++ x :: b) = pickE d A a ++ (optAt d r x).toList ++ pickE d B b := by
  unfold pickE
  rw [List.zip_append h.symm, List.filterMap_append, List.zip_cons_cons, List.filterMap_cons]
  cases hq : optAt d r x <;> simp [hq]
theorem hist_swap (hc : validC c = true) (hl : ∀ q ∈ A ++ r :: B, chs q ≠ 0) (hr : chs r' ≠ 0) (hk : A.length = k) (h : (((List.range (chs r).toNat).map fun (k : Nat) => (k : Int)).filter P).map f = (List.range (chs r').toNat).map fun (k : Nat) => (k : Int))
    (ho : ∀ x : Int, 0 ≤ x → x < chs r → P x = true → optAt 40001 r' (f x) = optAt 40001 r x) : histF c (A ++ r' :: B) = ((histF c (A ++ r :: B)).filter fun t => P (t.getD k 0)).map (chAt k f) := by
  have hl' : ∀ q ∈ A ++ r' :: B, chs q ≠ 0 := fun q hq => by
    rcases List.mem_append.1 hq with hq | hq
    · exact hl q (List.mem_append_left _ hq)
    · rcases List.mem_cons.1 hq with rfl | hq
      · exact hr
      · exact hl q (List.mem_append_right _ (List.mem_cons_of_mem _ hq))
  unfold histF
  rw [List.filter_filter]
  have e1 : allCh (A ++ r' :: B) = ((allCh (A ++ r :: B)).filter fun t => P (t.getD k 0)).map (chAt k f) := all_swap hk h
  have e2 : ∀ t ∈ allCh (A ++ r :: B), P (t.getD k 0) = true → isF c (A ++ r' :: B) (chAt k f t) = isF c (A ++ r :: B) t := fun t ht hp => by
    have g1 := (all_given hc hl t).2 ht
    have g2 := (all_given hc hl' (chAt k f t)).2 (by rw [e1]; exact List.mem_map.2 ⟨t, List.mem_filter.2 ⟨ht, hp⟩, rfl⟩)
    refine is_pick g2 g1 ?_
    obtain ⟨a, x, b, rfl, ha, hb, h0, h1⟩ := mid_mem ht
    rw [getD_app (ha.trans hk)] at hp
    rw [at_app (ha.trans hk), pick_mid ha, pick_mid ha, ho x h0 h1 hp]
  rw [e1, List.filter_map, List.filter_filter]
  congr 1
  refine List.filter_congr fun t ht => ?_
  simp only [Function.comp_apply]
  cases hp : P (t.getD k 0) with
  | false => simp
  | true => simp only [Bool.and_true, Bool.true_and]; exact e2 t ht hp
end
theorem range_split {n j : Nat} (h : j < n) : List.range n = List.range j ++ j :: (List.range (n - (j + 1))).map (j + 1 + ·) := by
  have e2 : List.range n = List.range (j + 1) ++ (List.range (n - (j + 1))).map (j + 1 + ·) := by
    rw [← List.range_add]; congr 1; omega
  rw [e2, List.range_succ, List.append_assoc]; rfl
theorem range_one {n j : Nat} (h : j < n) : ((((List.range n).map fun (k : Nat) => (k : Int)).filter fun x : Int => decide (x = (j : Int))).map fun _ => (0 : Int)) = [0] := by
  rw [range_split h, List.map_append, List.map_cons, List.filter_append, List.filter_cons, if_pos (by simp), List.map_append, List.map_cons]
  have h1 : ((List.range j).map fun (k : Nat) => (k : Int)).filter (fun x : Int => decide (x = (j : Int))) = [] := by
    rw [List.filter_eq_nil_iff]
    intro x hx
    obtain ⟨q, hq, rfl⟩ := List.mem_map.1 hx
    have := List.mem_range.1 hq
    simp; omega
  have h2 : (((List.range (n - (j + 1))).map (j + 1 + ·)).map fun (k : Nat) => (k : Int)).filter (fun x : Int => decide (x = (j : Int))) = [] := by
    rw [List.filter_eq_nil_iff]
    intro x hx
    obtain ⟨q, hq, rfl⟩ := List.mem_map.1 hx
    obtain ⟨p, hp, rfl⟩ := List.mem_map.1 hq
    simp; omega
  rw [h1, h2]; rfl
/-- those that choose an option, as_ if it were the only one -/
def selF (k j : Nat) (all : List (List Int)) : List (List Int) := (all.filter fun t => decide (t.getD k 0 = (j : Int))).map (chAt k fun _ => 0)
section
variable {c : List Kind} {l : List Rep} {k j : Nat}
theorem set_mid {α : Type} {l : List α} {k : Nat} (h : k < l.length) (x : α) : l.set k x = l.take k ++ x :: l.drop (k + 1) := by
  conv => lhs; rw [cut_whole h]
  have e : (l.take k).length = k := by rw [List.length_take]; omega
  rw [List.set_append_right _ _ (by omega), e, Nat.sub_self]; rfl
theorem opt_chs {r : Rep} (hv : validRep r = true) : (r.options.length : Int) ≤ chs r := by
  simp only [chs, hv, Bool.true_eq_false, if_false]; split <;> omega
theorem hist_one (he : errF c l = 0) (hk : k < l.length) (hj : j < l[k].options.length) : histF c (l.set k (oneOf l[k] j)) = selF k j (histF c l) := by
  obtain ⟨hc, hp⟩ := err_zero he
  have hv : validRep l[k] = true := by
    cases hv : validRep l[k] with
    | true => rfl
    | false => exact absurd (by simp [chs, hv]) (hp _ (List.getElem_mem hk))
  have hb := opt_chs hv
  have h1 := one_chs hv hj
  rw [set_mid hk, selF]
  conv => rhs; rw [cut_whole hk]
  refine hist_swap (P := fun x : Int => decide (x = (j : Int))) hc (by rw [← cut_whole hk]; exact hp) (by rw [h1]; decide) (by rw [List.length_take]; omega) ?_ fun x h0 hx hq => ?_
  · rw [h1, range_one (by omega)]; rfl
  · obtain rfl : x = (j : Int) := by simpa using hq
    exact one_opt hj _
theorem err_few0 {q : List Rep} (hq : q.length ≤ 30) (hc : validC c = true) (hp : ∀ r ∈ q, chs r ≠ 0) : errF c q = 0 := by
  have : dbtF q ≤ q.length := List.length_filter_le _ _
  rw [err_end hc hp, if_neg (by omega)]
theorem all_few {q : List Rep} (he : errF c q = 0) (hn : (histF c q).length ≤ 4096) : (allF c q 4096).1 = histF c q ∧ ((allF c q 4096).2 = 0 ↔ histF c q ≠ []) := by
  refine ⟨by rw [all_list (by decide) (by decide) he]; exact take_all hn, ?_⟩
  rw [all_code (by decide) (by decide), if_neg (show ¬ (errF c q ≠ 0) by simp [he])]
  by_cases hh : histF c q = []
  · simp [hh]
  · simp [hh]
end
end Go.Sx

/- Loops with six to eight things that turn; meetings of ways with four to six. -/
set_option linter.all false
namespace Go.Sx
open Go
section
variable {P : Program} {ρ : Option Nat} {n : Sz} {E : Ent} {I I' : IMap} {L : LL} {H : List Res} {K : Act → World → Prop} {Q : Exit → Act → World → Prop} {N : Act → World → Prop}
variable {α β γ δ ε ζ η θ : Type}
def NextS6 (n : Sz) (E : Ent) (Ix : α → β → γ → δ → ε → ζ → IMap) (Lx : α → β → γ → δ → ε → ζ → LL) (Hx : α → β → γ → δ → ε → ζ → List Res) (p : α → β → γ → δ → ε → ζ → Prop) (μ : α → β → γ → δ → ε → ζ → Nat) (x0 : α) (x1 : β) (x2 : γ) (x3 : δ) (x4 : ε) (x5 : ζ) : Act → World → Prop :=
  fun a w => ∃ y0 y1 y2 y3 y4 y5, p y0 y1 y2 y3 y4 y5 ∧ μ y0 y1 y2 y3 y4 y5 < μ x0 x1 x2 x3 x4 x5 ∧ St n a (Lx y0 y1 y2 y3 y4 y5) ∧ Mem E (Ix y0 y1 y2 y3 y4 y5) (Hx y0 y1 y2 y3 y4 y5) w
theorem c_loop6 (a0 : α) (a1 : β) (a2 : γ) (a3 : δ) (a4 : ε) (a5 : ζ) (Ix : α → β → γ → δ → ε → ζ → IMap) (Lx : α → β → γ → δ → ε → ζ → LL) (Hx : α → β → γ → δ → ε → ζ → List Res) (p : α → β → γ → δ → ε → ζ → Prop) (μ : α → β → γ → δ → ε → ζ → Nat) {c : Code}
    (h0 : p a0 a1 a2 a3 a4 a5) (hI : Ix a0 a1 a2 a3 a4 a5 = I) (hL : Sub (Lx a0 a1 a2 a3 a4 a5) L) (hH : Hx a0 a1 a2 a3 a4 a5 = H)
    (round : ∀ x0 x1 x2 x3 x4 x5, p x0 x1 x2 x3 x4 x5 → SX n E (Ix x0 x1 x2 x3 x4 x5) (Lx x0 x1 x2 x3 x4 x5) (Hx x0 x1 x2 x3 x4 x5) (c.wq ρ P (Exit.then (NextS6 n E Ix Lx Hx p μ x0 x1 x2 x3 x4 x5) Q))) : SX n E I L H ((Code.loop c).wq ρ P Q) :=
  c_loop (α := α × β × γ × δ × ε × ζ) (a0, a1, a2, a3, a4, a5) (fun q => Ix q.1 q.2.1 q.2.2.1 q.2.2.2.1 q.2.2.2.2.1 q.2.2.2.2.2) (fun q => Lx q.1 q.2.1 q.2.2.1 q.2.2.2.1 q.2.2.2.2.1 q.2.2.2.2.2) (fun q => Hx q.1 q.2.1 q.2.2.1 q.2.2.2.1 q.2.2.2.2.1 q.2.2.2.2.2) (fun q => p q.1 q.2.1 q.2.2.1 q.2.2.2.1 q.2.2.2.2.1 q.2.2.2.2.2) (fun q => μ q.1 q.2.1 q.2.2.1 q.2.2.2.1 q.2.2.2.2.1 q.2.2.2.2.2) h0 hI hL hH
    fun ⟨x0, x1, x2, x3, x4, x5⟩ hp => sx_mono (round x0 x1 x2 x3 x4 x5 hp) fun a w h => cwq_mono (fun e a w q => by
      cases e with
      | normal => obtain ⟨y0, y1, y2, y3, y4, y5, h1, h2, h3, h4⟩ := q; exact ⟨(y0, y1, y2, y3, y4, y5), h1, h2, h3, h4⟩
      | _ => exact q) h
theorem q_next6 {Ix : α → β → γ → δ → ε → ζ → IMap} {Lx : α → β → γ → δ → ε → ζ → LL} {Hx : α → β → γ → δ → ε → ζ → List Res} {p : α → β → γ → δ → ε → ζ → Prop} {μ : α → β → γ → δ → ε → ζ → Nat} {x0 : α} {x1 : β} {x2 : γ} {x3 : δ} {x4 : ε} {x5 : ζ} (y0 : α) (y1 : β) (y2 : γ) (y3 : δ) (y4 : ε) (y5 : ζ) (hp : p y0 y1 y2 y3 y4 y5) (hμ : μ y0 y1 y2 y3 y4 y5 < μ x0 x1 x2 x3 x4 x5)
    (hI : Ix y0 y1 y2 y3 y4 y5 = I) (hL : Sub (Lx y0 y1 y2 y3 y4 y5) L) (hH : Hx y0 y1 y2 y3 y4 y5 = H) : SX n E I L H (NextS6 n E Ix Lx Hx p μ x0 x1 x2 x3 x4 x5) :=
  fun a w s m => ⟨y0, y1, y2, y3, y4, y5, hp, hμ, s.sub hL, by rw [hI, hH]; exact m⟩
def CutS4 (n : Sz) (E : Ent) (Ix : α → β → γ → δ → IMap) (Lx : α → β → γ → δ → LL) (Hx : α → β → γ → δ → List Res) (p : α → β → γ → δ → Prop) (a : Act) (w : World) : Prop := ∃ x0 x1 x2 x3, p x0 x1 x2 x3 ∧ St n a (Lx x0 x1 x2 x3) ∧ Mem E (Ix x0 x1 x2 x3) (Hx x0 x1 x2 x3) w
theorem c_cutx4 {Ix : α → β → γ → δ → IMap} {Lx : α → β → γ → δ → LL} {Hx : α → β → γ → δ → List Res} {p : α → β → γ → δ → Prop} {c : Code}
    (h1 : SX n E I L H (c.wq ρ P (Exit.then (CutS4 n E Ix Lx Hx p) Q))) (h2 : ∀ x0 x1 x2 x3, p x0 x1 x2 x3 → SX n E (Ix x0 x1 x2 x3) (Lx x0 x1 x2 x3) (Hx x0 x1 x2 x3) N) : SX n E I L H (c.wq ρ P (Exit.then N Q)) := fun a w s m =>
  cwq_mono (fun e a w q => by cases e <;> first | exact q | (obtain ⟨x0, x1, x2, x3, hp, hs, hm⟩ := q; exact h2 x0 x1 x2 x3 hp a w hs hm)) (h1 a w s m)
theorem q_cutx4 {Ix : α → β → γ → δ → IMap} {Lx : α → β → γ → δ → LL} {Hx : α → β → γ → δ → List Res} {p : α → β → γ → δ → Prop} (x0 : α) (x1 : β) (x2 : γ) (x3 : δ) (hp : p x0 x1 x2 x3) (hL : Sub (Lx x0 x1 x2 x3) L) (hH : Hx x0 x1 x2 x3 = H) (hI : Ix x0 x1 x2 x3 = I) :
    SX n E I L H (CutS4 n E Ix Lx Hx p) := fun _ _ s m => ⟨x0, x1, x2, x3, hp, s.sub hL, by rw [hH, hI]; exact m⟩
end
end Go.Sx

/- SearchEvidence: steps of its loop. -/
set_option linter.all false
namespace Go.Sx
open Go
section
variable {X : List (List Int)} {i k j : Nat}
theorem getD_at {t : List Int} (hk : k < t.length) : t.getD k 0 = t[k] := by simp [List.getD, hk]
end
theorem one_sm {r : Rep} {j : Nat} (h : ∀ e ∈ r.options, SmE e) (hj : j < r.options.length) : ∀ e ∈ (oneOf r j).options, SmE e := fun e he => by
  rw [one_opts hj] at he
  rw [List.mem_singleton.1 he]; exact h _ (List.getElem_mem hj)
end Go.Sx

/- The reference of searching: the steps of its functions. -/
set_option linter.all false
namespace Go.Sx
open Go
section
variable {l : List Rep} {t m : List Int} {j : Nat}
end
/-! all of them, one after the other -/
structure Evy (c : List Kind) (l : List Rep) (most : Int) (k : Nat) (b : Bool) (ch : List Int) (out : List (List Int)) : Prop where
  is : out = ((allCh l).take k).filter (isF c l)
  le : (out.length : Int) ≤ most
  at_ : (b = true ∧ ∃ h : k < (allCh l).length, ch = (allCh l)[k]) ∨ (b = false ∧ k = (allCh l).length)
section
variable {c : List Kind} {l : List Rep} {most : Int} {k : Nat} {b : Bool} {ch : List Int} {out : List (List Int)}
theorem pos_one (hp : ∀ r ∈ l, chs r ≠ 0) : ∀ r ∈ l, 1 ≤ chs r := fun r hr => by have := hp r hr; have := chs_nn r; omega
theorem Evy.start (hp : ∀ r ∈ l, chs r ≠ 0) (h : 1 ≤ most) : Evy c l most 0 true (zeros l.length) [] := by
  have hC := all_chn (pos_one hp)
  refine ⟨rfl, by simp; omega, .inl ⟨rfl, hC.pos, ?_⟩⟩
  have := hC.first
  rw [List.getElem?_eq_getElem hC.pos] at this
  exact (Option.some.inj this).symm
theorem Evy.mem (h : Evy c l most k true ch out) : ch ∈ allCh l := by
  rcases h.at_ with ⟨_, h1, rfl⟩ | ⟨h1, _⟩
  · exact List.getElem_mem h1
  · cases h1
theorem Evy.lt (h : Evy c l most k true ch out) : k < (allCh l).length := by
  rcases h.at_ with ⟨_, h1, _⟩ | ⟨h1, _⟩
  · exact h1
  · cases h1
end
section
variable {c : List Kind} {l : List Rep}
end
end Go.Sx

/- What a valid state is, part by part; an event that happens keeps it. -/
set_option linter.all false
namespace Go.Sx
open Go
theorem allP_iff {α : Type} {f : List α → α → Bool} {l : List α} : allP f l l.length = true ↔ ∀ (i : Nat) (h : i < l.length), f (l.take i) l[i] = true := by
  rw [allP, List.all_eq_true]
  constructor
  · intro h i hi
    have := h i (List.mem_range.2 hi)
    simpa only [List.getElem?_eq_getElem hi] using this
  · intro h i hi
    have hi := List.mem_range.1 hi
    simp only [List.getElem?_eq_getElem hi]
    exact h i hi
theorem allP_all {α : Type} {f : α → Bool} {l : List α} : allP (fun _ x => f x) l l.length = true ↔ ∀ x ∈ l, f x = true := by
  rw [allP_iff]
  constructor
  · intro h x hx; obtain ⟨i, hi, rfl⟩ := List.getElem_of_mem hx; exact h i hi
  · intro h i hi; exact h _ (List.getElem_mem hi)
theorem ord_iff {α : Type} {nm : α → ByteArray} {l : List α} : ordF nm l = true ↔ Inc nm l := by
  constructor
  · exact fun h => inc_of (Srt.of_ord h)
  · intro h
    unfold ordF
    rw [allP_iff]
    intro i hi
    unfold ordAt
    cases i with
    | zero => simp
    | succ i =>
      have : (l.take (i + 1)).getLast? = some l[i] := by
        rw [List.getLast?_eq_getElem?, List.length_take, Nat.min_eq_left (by omega), List.getElem?_take, if_pos (by omega)]
        simp
      rw [this]
      exact (List.pairwise_iff_getElem.1 h) i (i + 1) (by omega) hi (by omega)
/-- a part in its place -/
structure Sits (c : List Kind) (st : List Part) (p : Part) : Prop where
  alive : p.scrapped = false
  host : ∃ q, q ∈ st ∧ q.name = p.into ∧ q.scrapped = false ∧ takesF c q.kind p.slot p.kind = true
structure VS (c : List Kind) (st : List Part) : Prop where
  cat : validC c = true
  len : st.length ≤ 20000
  inc : Inc Part.name st
  right : ∀ p ∈ st, rightP c p = true
  both : ∀ p ∈ st, (p.into = nil8 ↔ p.slot = nil8)
  sits : ∀ p ∈ st, p.into ≠ nil8 → Sits c st p
  apart : ∀ p ∈ st, ∀ q ∈ st, p.into ≠ nil8 → p.into = q.into → p.slot = q.slot → p = q
theorem seated_hit {pre : List Part} {x : ByteArray × ByteArray} : hit seatOf (seated pre) x = true ↔ ∃ q ∈ pre, q.into ≠ nil8 ∧ seatOf q = x := by
  rw [hit_eq, List.any_eq_true]
  constructor
  · rintro ⟨q, hq, he⟩
    rw [seated, List.mem_filter] at hq
    exact ⟨q, hq.1, by simpa using hq.2, by simpa using he⟩
  · rintro ⟨q, h1, h2, h3⟩
    exact ⟨q, by rw [seated, List.mem_filter]; exact ⟨h1, by simpa using h2⟩, by simpa using h3⟩
theorem inc_idx {l : List Part} (h : Inc Part.name l) {i j : Nat} {hi : i < l.length} {hj : j < l.length} (he : l[i] = l[j]) : i = j := by
  rw [Inc, List.pairwise_iff_getElem] at h
  rcases Nat.lt_trichotomy i j with hij | hij | hij
  · have := h i j hi hj hij; rw [he, sLt_irrefl] at this; cases this
  · exact hij
  · have := h j i hj hi hij; rw [he, sLt_irrefl] at this; cases this
theorem validS_iff {c : List Kind} {st : List Part} : validS c st = true ↔ VS c st := by
  unfold validS bad0S
  simp only [Bool.and_eq_true, Bool.not_eq_true', Bool.or_eq_false_iff, Bool.not_eq_false', decide_eq_false_iff_not]
  rw [ord_iff, allP_iff]
  constructor
  · rintro ⟨⟨⟨h1, h2⟩, h3⟩, h4⟩
    have key : ∀ (i : Nat) (hi : i < st.length), rightP c st[i] = true ∧ (st[i].into = nil8 ↔ st[i].slot = nil8) ∧ (st[i].into ≠ nil8 → Sits c st st[i] ∧ ∀ q ∈ st.take i, q.into ≠ nil8 → seatOf q ≠ seatOf st[i]) := by
      intro i hi
      have h5 := h4 i hi
      simp only [partFine, bad1P, Bool.and_eq_true, Bool.not_eq_true', Bool.or_eq_false_iff, Bool.not_eq_false', Bool.or_eq_true, decide_eq_true_eq] at h5
      obtain ⟨⟨h6, h7⟩, h8⟩ := h5
      refine ⟨h6, ?_, fun hne => ?_⟩
      · have h7 : decide (st[i].into = nil8) = decide (st[i].slot = nil8) := by simpa using h7
        by_cases ha : st[i].into = nil8 <;> by_cases hb : st[i].slot = nil8 <;> simp [ha, hb] at h7 ⊢
      · rcases h8 with h8 | h8
        · exact absurd h8 hne
        · simp only [bad2P, Bool.or_eq_false_iff, Bool.not_eq_false'] at h8
          obtain ⟨⟨⟨⟨h9, h10⟩, h11⟩, h12⟩, h13⟩ := h8
          obtain ⟨q, hq⟩ := Option.isSome_iff_exists.1 h9
          rw [hq] at h11 h13
          have hq' := (find_iff h3).1 hq
          refine ⟨⟨h10, q, hq'.1, hq'.2, h11, h13⟩, fun q' hq' hn he => ?_⟩
          have : hit seatOf (seated (st.take i)) (seatOf st[i]) = true := seated_hit.2 ⟨q', hq', hn, he⟩
          rw [h12] at this; cases this
    refine ⟨h1, by omega, h3, fun p hp => ?_, fun p hp => ?_, fun p hp => ?_, fun p hp q hq hn he hs => ?_⟩
    · obtain ⟨i, hi, rfl⟩ := List.getElem_of_mem hp; exact (key i hi).1
    · obtain ⟨i, hi, rfl⟩ := List.getElem_of_mem hp; exact (key i hi).2.1
    · obtain ⟨i, hi, rfl⟩ := List.getElem_of_mem hp; exact fun h => ((key i hi).2.2 h).1
    · obtain ⟨i, hi, rfl⟩ := List.getElem_of_mem hp
      obtain ⟨j, hj, rfl⟩ := List.getElem_of_mem hq
      have hse : seatOf st[i] = seatOf st[j] := by simp [seatOf, he, hs]
      rcases Nat.lt_trichotomy i j with hij | rfl | hij
      · exact absurd hse (((key j hj).2.2 (by rw [← he]; exact hn)).2 st[i] (by rw [List.mem_iff_getElem?]; exact ⟨i, by rw [List.getElem?_take, if_pos hij]; simp⟩) hn)
      · rfl
      · exact absurd hse.symm (((key i hi).2.2 hn).2 st[j] (by rw [List.mem_iff_getElem?]; exact ⟨j, by rw [List.getElem?_take, if_pos hij]; simp⟩) (by rw [← he]; exact hn))
  · intro h
    refine ⟨⟨⟨h.cat, by have := h.len; omega⟩, h.inc⟩, fun i hi => ?_⟩
    have hm := List.getElem_mem hi
    have hb := h.both _ hm
    simp only [partFine, bad1P, Bool.and_eq_true, Bool.not_eq_true', Bool.or_eq_false_iff, Bool.not_eq_false', Bool.or_eq_true, decide_eq_true_eq]
    refine ⟨⟨h.right _ hm, ?_⟩, ?_⟩
    · by_cases ha : st[i].into = nil8
      · simp [ha, hb.1 ha]
      · have : ¬ st[i].slot = nil8 := fun hs => ha (hb.2 hs)
        simp [ha, this]
    · by_cases ha : st[i].into = nil8
      · exact .inl ha
      · right
        obtain ⟨h1, q, h2, h3, h4, h5⟩ := h.sits _ hm ha
        have hf : findP st st[i].into = some q := (find_iff h.inc).2 ⟨h2, h3⟩
        simp only [bad2P, Bool.or_eq_false_iff, Bool.not_eq_false']
        rw [hf]
        refine ⟨⟨⟨⟨rfl, h1⟩, h4⟩, ?_⟩, h5⟩
        rw [Bool.eq_false_iff]
        intro hh
        obtain ⟨q', h6, h7, h8⟩ := seated_hit.1 hh
        have h9 : q' ∈ st := List.mem_of_mem_take h6
        have h10 : q' = st[i] := h.apart _ h9 _ hm h7 (congrArg (·.1) h8) (congrArg (·.2) h8)
        obtain ⟨j, hj, hje⟩ := List.getElem_of_mem h6
        rw [List.length_take] at hj
        rw [List.getElem_take, h10] at hje
        have := inc_idx h.inc hje
        omega
/-! what an event does -/
/-- the part that an event leaves behind, if it is possible -/
structure Step (c : List Kind) (st : List Part) (e : Evt) (p' : Part) : Prop where
  vs : VS c st
  ve : validE e = true
  how : (e.op = 1 ∧ findP st e.part = none ∧ (findK c e.kind).isSome = true ∧ st.length ≠ 20000 ∧ p' = newP e) ∨
    ∃ p, findP st e.part = some p ∧ p.scrapped = false ∧
      ((e.op = 2 ∧ ∃ q, findP st e.into = some q ∧ q.scrapped = false ∧ ((findK c p.kind).getD zKind).vehicle = false ∧ takesF c q.kind e.slot p.kind = true ∧ p.into = nil8 ∧ seatTaken st e = false ∧ p' = { p with into := e.into, slot := e.slot }) ∨
       (e.op = 3 ∧ p.into ≠ nil8 ∧ p' = { p with into := nil8, slot := nil8 }) ∨
       (e.op = 4 ∧ ((findK c p.kind).getD zKind).vehicle = true ∧ p' = p) ∨
       (e.op = 5 ∧ p' = overhauled e p) ∨
       (e.op = 6 ∧ (noted e p).props.length ≤ 60 ∧ p' = noted e p) ∨
       (e.op = 7 ∧ p.into = nil8 ∧ holdsAny st p.name = false ∧ p' = { p with scrapped := true }))
theorem validE_op {e : Evt} (h : validE e = true) : 1 ≤ e.op ∧ e.op < 8 := by
  simp only [validE, evBad, Bool.and_eq_true, Bool.not_eq_true', Bool.or_eq_false_iff, decide_eq_false_iff_not] at h
  have := h.1.1.1.1.1.1
  rw [wordOf_empty] at this
  omega
theorem apply_of {c : List Kind} {st : List Part} {e : Evt} {p' : Part} (h : Step c st e p') : applyF c st e = putR st p' := by
  have hv := validS_iff.2 h.vs
  unfold applyF
  rw [if_neg (by simp [hv, h.ve])]
  rcases h.how with ⟨h1, h2, h3, h4, rfl⟩ | ⟨p, h1, h2, h3⟩
  · rw [if_pos h1]
    unfold applyMake
    rw [if_neg (by simp [h2]), if_neg (by simp [h3]), if_neg (by omega)]
  · have hpp : partP st e = p := by simp [partP, h1]
    have h5 := validE_op h.ve
    rcases h3 with ⟨h3, q, h4, h6, h7, h8, h9, h10, rfl⟩ | ⟨h3, h4, rfl⟩ | ⟨h3, h4, rfl⟩ | ⟨h3, rfl⟩ | ⟨h3, h4, rfl⟩ | ⟨h3, h4, h6, rfl⟩
    · have ho : otherO st e = some q := by simp [otherO, h3, h4]
      simp only [applyRest, h3, ho, h1, hpp, otherP, kindP, h2, h6, applyOp, applyFit, h7, h8, h9, h10, Option.isSome_some, Option.getD_some]
      simp
    · have ho : otherO st e = some p := by simp [otherO, h3, h1]
      simp only [applyRest, h3, ho, h1, hpp, otherP, kindP, h2, applyOp, applyRemove, Option.isSome_some, Option.getD_some]
      simp [h4]
    · have ho : otherO st e = some p' := by simp [otherO, h3, h1]
      simp only [applyRest, h3, ho, h1, hpp, otherP, kindP, h2, applyOp, applyRun, h4, Option.isSome_some, Option.getD_some]
      simp
    · have ho : otherO st e = some p := by simp [otherO, h3, h1]
      simp only [applyRest, h3, ho, h1, hpp, otherP, kindP, h2, applyOp, Option.isSome_some, Option.getD_some]
      simp
    · have ho : otherO st e = some p := by simp [otherO, h3, h1]
      simp only [applyRest, h3, ho, h1, hpp, otherP, kindP, h2, applyOp, applyNote, Option.isSome_some, Option.getD_some]
      simp; omega
    · have ho : otherO st e = some p := by simp [otherO, h3, h1]
      simp only [applyRest, h3, ho, h1, hpp, otherP, kindP, h2, applyOp, applyScrap, h4, h6, Option.isSome_some, Option.getD_some]
      simp
theorem of_apply {c : List Kind} {st : List Part} {e : Evt} (h : (applyF c st e).2 = 0) : ∃ p', Step c st e p' := by
  unfold applyF at h
  split at h
  · cases h
  · rename_i hv
    have hv : validS c st = true ∧ validE e = true := by simpa using hv
    have hop := validE_op hv.2
    split at h
    · rename_i h1
      unfold applyMake at h
      split at h
      · cases h
      · rename_i h2
        split at h
        · cases h
        · rename_i h3
          split at h
          · cases h
          · rename_i h4
            exact ⟨_, validS_iff.1 hv.1, hv.2, .inl ⟨h1, by simpa using h2, by rw [Option.isSome_iff_ne_none]; simpa using h3, by omega, rfl⟩⟩
    · rename_i h1
      unfold applyRest at h
      split at h
      · cases h
      · rename_i h2
        split at h
        · cases h
        · rename_i h3
          have h2 : (findP st e.part).isSome = true ∧ (otherO st e).isSome = true := by rw [Option.isSome_iff_ne_none, Option.isSome_iff_ne_none]; simpa using h2
          obtain ⟨p, hp⟩ := Option.isSome_iff_exists.1 h2.1
          obtain ⟨q, hq⟩ := Option.isSome_iff_exists.1 h2.2
          have hpp : partP st e = p := by simp [partP, hp]
          have hqq : otherP st e = q := by simp [otherP, hq]
          have hkk : kindP c st e = (findK c p.kind).getD zKind := by simp [kindP, hpp]
          rw [hpp, hqq] at h3
          have h3 : p.scrapped = false ∧ q.scrapped = false := by simpa using h3
          rw [hpp, hqq, hkk] at h
          unfold applyOp at h
          split at h
          · rename_i h4
            unfold applyFit at h
            split at h
            · cases h
            · rename_i h5
              split at h
              · cases h
              · rename_i h6
                split at h
                · cases h
                · rename_i h7
                  have h5 : ((findK c p.kind).getD zKind).vehicle = false ∧ takesF c q.kind e.slot p.kind = true := by simpa using h5
                  exact ⟨_, validS_iff.1 hv.1, hv.2, .inr ⟨p, hp, h3.1, .inl ⟨h4, q, by simpa [otherO, h4] using hq, h3.2, h5.1, h5.2, by simpa using h6, by simpa using h7, rfl⟩⟩⟩
          · rename_i h4
            split at h
            · rename_i h5
              unfold applyRemove at h
              split at h
              · cases h
              · rename_i h6; exact ⟨_, validS_iff.1 hv.1, hv.2, .inr ⟨p, hp, h3.1, .inr (.inl ⟨h5, h6, rfl⟩)⟩⟩
            · rename_i h5
              split at h
              · rename_i h6
                unfold applyRun at h
                split at h
                · cases h
                · rename_i h7; exact ⟨_, validS_iff.1 hv.1, hv.2, .inr ⟨p, hp, h3.1, .inr (.inr (.inl ⟨h6, by simpa using h7, rfl⟩))⟩⟩
              · rename_i h6
                split at h
                · rename_i h7; exact ⟨_, validS_iff.1 hv.1, hv.2, .inr ⟨p, hp, h3.1, .inr (.inr (.inr (.inl ⟨h7, rfl⟩)))⟩⟩
                · rename_i h7
                  split at h
                  · rename_i h8
                    unfold applyNote at h
                    split at h
                    · cases h
                    · rename_i h9; exact ⟨_, validS_iff.1 hv.1, hv.2, .inr ⟨p, hp, h3.1, .inr (.inr (.inr (.inr (.inl ⟨h8, by omega, rfl⟩))))⟩⟩
                  · rename_i h8
                    split at h
                    · rename_i h9
                      unfold applyScrap at h
                      split at h
                      · cases h
                      · rename_i h10
                        have h10 : p.into = nil8 ∧ holdsAny st p.name = false := by simpa using h10
                        exact ⟨_, validS_iff.1 hv.1, hv.2, .inr ⟨p, hp, h3.1, .inr (.inr (.inr (.inr (.inr ⟨h9, h10.1, h10.2, rfl⟩))))⟩⟩
                    · exfalso; omega
theorem validE_parts {e : Evt} (h : validE e = true) : nameOk e.part = true ∧ 0 ≤ e.day ∧ e.day ≤ 40000 ∧ (e.op = 2 → nameOk e.into = true ∧ nameOk e.slot = true ∧ e.into ≠ e.part) ∧ (e.op = 6 → nameOk e.key = true ∧ e.value ≠ nil8 ∧ ((e.value.size : Nat) : Int) ≤ 200) := by
  simp only [validE, evBad, Bool.and_eq_true, Bool.not_eq_true', Bool.or_eq_false_iff, decide_eq_false_iff_not, Bool.not_eq_false'] at h
  obtain ⟨⟨⟨⟨⟨⟨h1, h2⟩, h3⟩, h4⟩, h5⟩, h6⟩, h7⟩ := h
  refine ⟨h4, by omega, by omega, fun h8 => ?_, fun h8 => ?_⟩
  · have h9 : namesOf e = [e.into, e.slot] := by simp [namesOf, h8]
    rw [h9] at h7
    simp only [List.any_cons, List.any_nil, Bool.or_eq_false_iff, Bool.not_eq_false'] at h7
    have h10 : opBad e = decide (e.into = e.part) := by simp [opBad, h8]
    rw [h10, decide_eq_false_iff_not] at h5
    exact ⟨h7.1, h7.2.1, h5⟩
  · have h9 : namesOf e = [e.key] := by simp [namesOf, h8]
    rw [h9] at h7
    simp only [List.any_cons, List.any_nil, Bool.or_eq_false_iff, Bool.not_eq_false'] at h7
    have h10 : opBad e = (decide (e.value = nil8) || decide ((200 : Int) < (e.value.size : Nat))) := by simp [opBad, h8]
    rw [h10, Bool.or_eq_false_iff, decide_eq_false_iff_not, decide_eq_false_iff_not] at h5
    exact ⟨h7.1, h5.1, by omega⟩
theorem name_ne {s : ByteArray} (h : nameOk s = true) : s ≠ nil8 := by
  rintro rfl
  simp [nameOk] at h
/-- what is right of a part alone -/
structure RP (c : List Kind) (p : Part) : Prop where
  kind : (findK c p.kind).isSome = true
  name : nameOk p.name = true
  made : 0 ≤ p.made
  since : p.made ≤ p.since
  since2 : p.since ≤ 40000
  few : p.props.length ≤ 60
  props : ∀ q ∈ p.props, propOk q = true
  inc : Inc Prp.key p.props
  km : lifeOk p.life.km = true
  cycles : lifeOk p.life.cycles = true
  damage : lifeOk p.life.damage = true
theorem right_iff {c : List Kind} {p : Part} : rightP c p = true ↔ RP c p := by
  unfold rightP partBad
  simp only [Bool.and_eq_true, Bool.not_eq_true', Bool.or_eq_false_iff, Bool.not_eq_false', decide_eq_false_iff_not]
  rw [ord_iff, allP_all]
  constructor
  · rintro ⟨⟨⟨⟨⟨⟨⟨h1, h2⟩, h3⟩, h4⟩, h5⟩, h6⟩, h7⟩, ⟨⟨h8, h9⟩, h10⟩, h11⟩
    exact ⟨h1, h2, by omega, by omega, by omega, by omega, h7, h8, h9, h10, h11⟩
  · rintro ⟨h1, h2, h3, h4, h5, h6, h7, h8, h9, h10, h11⟩
    exact ⟨⟨⟨⟨⟨⟨⟨h1, h2⟩, by omega⟩, by omega⟩, by omega⟩, by omega⟩, h7⟩, ⟨⟨h8, h9⟩, h10⟩, h11⟩
theorem Step.name {c : List Kind} {st : List Part} {e : Evt} {p' : Part} (h : Step c st e p') : p'.name = e.part := by
  rcases h.how with ⟨_, _, _, _, rfl⟩ | ⟨p, h1, _, h3⟩
  · rfl
  · have hn : p.name = e.part := ((find_iff h.vs.inc).1 h1).2
    rcases h3 with ⟨_, q, _, _, _, _, _, _, rfl⟩ | ⟨_, _, rfl⟩ | ⟨_, _, rfl⟩ | ⟨_, rfl⟩ | ⟨_, _, rfl⟩ | ⟨_, _, _, rfl⟩ <;> exact hn
theorem Step.kind {c : List Kind} {st : List Part} {e : Evt} {p' p : Part} (h : Step c st e p') (hp : findP st e.part = some p) : p'.kind = p.kind := by
  rcases h.how with ⟨_, h2, _, _, rfl⟩ | ⟨p0, h1, _, h3⟩
  · rw [hp] at h2; cases h2
  · rw [hp] at h1; cases h1
    rcases h3 with ⟨_, q, _, _, _, _, _, _, rfl⟩ | ⟨_, _, rfl⟩ | ⟨_, _, rfl⟩ | ⟨_, rfl⟩ | ⟨_, _, rfl⟩ | ⟨_, _, _, rfl⟩ <;> rfl
theorem Step.right {c : List Kind} {st : List Part} {e : Evt} {p' : Part} (h : Step c st e p') : RP c p' := by
  obtain ⟨v1, v2, v3, v4, v5⟩ := validE_parts h.ve
  rcases h.how with ⟨_, _, h3, _, rfl⟩ | ⟨p, h1, _, h3⟩
  · exact ⟨h3, v1, v2, Int.le_refl _, v3, by simp [newP], fun _ h => by simp [newP] at h, by simp [newP, Inc], rfl, rfl, rfl⟩
  · have hr := right_iff.1 (h.vs.right p ((find_iff h.vs.inc).1 h1).1)
    rcases h3 with ⟨_, q, _, _, _, _, _, _, rfl⟩ | ⟨_, _, rfl⟩ | ⟨_, _, rfl⟩ | ⟨_, rfl⟩ | ⟨h6, h7, rfl⟩ | ⟨_, _, _, rfl⟩
    · exact ⟨hr.kind, hr.name, hr.made, hr.since, hr.since2, hr.few, hr.props, hr.inc, hr.km, hr.cycles, hr.damage⟩
    · exact ⟨hr.kind, hr.name, hr.made, hr.since, hr.since2, hr.few, hr.props, hr.inc, hr.km, hr.cycles, hr.damage⟩
    · exact hr
    · have hs := hr.since
      have hs2 := hr.since2
      refine ⟨hr.kind, hr.name, hr.made, ?_, ?_, hr.few, hr.props, hr.inc, rfl, rfl, rfl⟩
      · show p.made ≤ (if e.day > p.since then e.day else p.since); split <;> omega
      · show (if e.day > p.since then e.day else p.since) ≤ 40000; split <;> omega
    · obtain ⟨k1, k2, k3⟩ := v5 h6
      refine ⟨hr.kind, hr.name, hr.made, hr.since, hr.since2, h7, fun q hq => ?_, put_inc _ hr.inc, hr.km, hr.cycles, hr.damage⟩
      rcases (put_mem hr.inc).1 hq with rfl | ⟨hq, _⟩
      · simp only [propOk, k1, Bool.true_and, Bool.and_eq_true, Bool.not_eq_true', decide_eq_false_iff_not, decide_eq_true_eq]
        exact ⟨k2, k3⟩
      · exact hr.props q hq
    · exact ⟨hr.kind, hr.name, hr.made, hr.since, hr.since2, hr.few, hr.props, hr.inc, hr.km, hr.cycles, hr.damage⟩
theorem taken_iff {st : List Part} {e : Evt} : seatTaken st e = false ↔ ∀ x ∈ st, ¬ (x.into = e.into ∧ x.slot = e.slot) := by
  unfold seatTaken
  rw [List.any_eq_false]
  simp
theorem holds_iff {st : List Part} {s : ByteArray} : holdsAny st s = false ↔ ∀ x ∈ st, x.into ≠ s := by
  unfold holdsAny
  rw [List.any_eq_false]
  simp
theorem Step.valid {c : List Kind} {st : List Part} {e : Evt} {p' : Part} (h : Step c st e p') : VS c (putL Part.name st p') := by
  have hv := h.vs
  have hi := hv.inc
  have hn := h.name
  obtain ⟨v1, v2, v3, v4, v5⟩ := validE_parts h.ve
  have hm : ∀ z, z ∈ putL Part.name st p' ↔ z = p' ∨ (z ∈ st ∧ z.name ≠ e.part) := fun z => by rw [put_mem hi, hn]
  -- the new part in its place
  have hpl : (p'.into = nil8 ↔ p'.slot = nil8) ∧ (p'.into ≠ nil8 → p'.scrapped = false ∧ ∃ q, q ∈ st ∧ q.name = p'.into ∧ q.scrapped = false ∧ takesF c q.kind p'.slot p'.kind = true) ∧
      (p'.into ≠ nil8 → ∀ z ∈ st, z.name ≠ e.part → ¬ (z.into = p'.into ∧ z.slot = p'.slot)) ∧ (p'.scrapped = true → ∀ z ∈ st, z.into ≠ e.part) := by
    rcases h.how with ⟨_, h2, _, _, rfl⟩ | ⟨p, h1, h2, h3⟩
    · exact ⟨⟨fun _ => rfl, fun _ => rfl⟩, fun h => absurd rfl h, fun h => absurd rfl h, fun h => by cases h⟩
    · have hp := (find_iff hi).1 h1
      have hb := hv.both p hp.1
      have hold : p.into ≠ nil8 → p.scrapped = false ∧ ∃ q, q ∈ st ∧ q.name = p.into ∧ q.scrapped = false ∧ takesF c q.kind p.slot p.kind = true := fun hne => by
        obtain ⟨s1, q, s2, s3, s4, s5⟩ := hv.sits p hp.1 hne
        exact ⟨s1, q, s2, s3, s4, s5⟩
      have hap : p.into ≠ nil8 → ∀ z ∈ st, z.name ≠ e.part → ¬ (z.into = p.into ∧ z.slot = p.slot) := fun hne z hz hzn ⟨e1, e2⟩ => by
        have := hv.apart p hp.1 z hz hne e1.symm e2.symm
        subst this
        exact hzn hp.2
      rcases h3 with ⟨o1, q, o2, o3, o4, o5, o6, o7, rfl⟩ | ⟨_, _, rfl⟩ | ⟨_, _, rfl⟩ | ⟨_, rfl⟩ | ⟨_, _, rfl⟩ | ⟨_, o2, o3, rfl⟩
      · obtain ⟨k1, k2, k3⟩ := v4 o1
        have hq := (find_iff hi).1 o2
        exact ⟨⟨fun hh => absurd hh (name_ne k1), fun hh => absurd hh (name_ne k2)⟩, fun _ => ⟨h2, q, hq.1, hq.2, o3, o5⟩, fun _ z hz _ => taken_iff.1 o7 z hz, fun hh => by
          have : p.scrapped = true := hh
          rw [h2] at this; cases this⟩
      · exact ⟨⟨fun _ => rfl, fun _ => rfl⟩, fun h => absurd rfl h, fun h => absurd rfl h, fun hh => by
          have : p.scrapped = true := hh
          rw [h2] at this; cases this⟩
      · exact ⟨hb, hold, hap, fun hh => by rw [h2] at hh; cases hh⟩
      · exact ⟨hb, hold, hap, fun hh => by
          have : p.scrapped = true := hh
          rw [h2] at this; cases this⟩
      · exact ⟨hb, hold, hap, fun hh => by
          have : p.scrapped = true := hh
          rw [h2] at this; cases this⟩
      · exact ⟨hb, fun hne => absurd o2 hne, fun hne => absurd o2 hne, fun _ z hz => by rw [← hp.2]; exact holds_iff.1 o3 z hz⟩
  obtain ⟨c1, c2, c3, c4⟩ := hpl
  have hk : ∀ q ∈ st, q.name = e.part → p'.kind = q.kind := fun q hq hqn => h.kind ((find_iff hi).2 ⟨hq, hqn⟩)
  refine ⟨hv.cat, ?_, put_inc _ hi, fun z hz => ?_, fun z hz => ?_, fun z hz hne => ?_, fun z hz w hw hne e1 e2 => ?_⟩
  · rw [put_len hi, at_find hi, hn]
    split
    · exact hv.len
    · rename_i hnf
      rcases h.how with ⟨_, _, _, h4, _⟩ | ⟨p, h1, _, _⟩
      · have := hv.len; omega
      · exact absurd (by rw [show st.find? (fun y => decide (y.name = e.part)) = some p from h1]; rfl) hnf
  · rcases (hm z).1 hz with rfl | ⟨hz, _⟩
    · exact right_iff.2 h.right
    · exact hv.right z hz
  · rcases (hm z).1 hz with rfl | ⟨hz, _⟩
    · exact c1
    · exact hv.both z hz
  · rcases (hm z).1 hz with rfl | ⟨hz, hzn⟩
    · obtain ⟨d1, q, d2, d3, d4, d5⟩ := c2 hne
      by_cases hq : q.name = e.part
      · exact ⟨d1, z, (hm z).2 (.inl rfl), by rw [hn, ← hq, d3], d1, by rw [hk q d2 hq]; rw [hk q d2 hq] at d5; exact d5⟩
      · exact ⟨d1, q, (hm q).2 (.inr ⟨d2, hq⟩), d3, d4, d5⟩
    · obtain ⟨d1, q, d2, d3, d4, d5⟩ := hv.sits z hz hne
      by_cases hq : q.name = e.part
      · have hsc : p'.scrapped = false := by
          cases hs : p'.scrapped with
          | false => rfl
          | true => exact absurd (by rw [← d3, hq]) (c4 hs z hz)
        exact ⟨d1, p', (hm p').2 (.inl rfl), by rw [hn, ← hq, d3], hsc, by rw [hk q d2 hq]; exact d5⟩
      · exact ⟨d1, q, (hm q).2 (.inr ⟨d2, hq⟩), d3, d4, d5⟩
  · rcases (hm z).1 hz with hz1 | ⟨hz1, hzn⟩ <;> rcases (hm w).1 hw with hw1 | ⟨hw1, hwn⟩
    · rw [hz1, hw1]
    · subst hz1; exact absurd ⟨e1.symm, e2.symm⟩ (c3 hne w hw1 hwn)
    · subst hw1; exact absurd ⟨e1, e2⟩ (c3 (by rw [← e1]; exact hne) z hz1 hzn)
    · exact hv.apart z hz1 w hw1 hne e1 e2
/-! two events, the one for the other -/
def mentions (e : Evt) : List ByteArray := if e.op = 2 then [e.part, e.into] else [e.part]
theorem Step.swap {c : List Kind} {st : List Part} {x y : Evt} {p1 p2 : Part} (hx : Step c st x p1) (hy : Step c (putL Part.name st p1) y p2) (h3 : x.op ≠ 3) (h3' : y.op ≠ 3) (hd : ∀ s ∈ mentions x, s ∉ mentions y) :
    Step c st y p2 ∧ Step c (putL Part.name st p2) x p1 := by
  have hi := hx.vs.inc
  have n1 := hx.name
  have n2 := hy.name
  have xp : x.part ∈ mentions x := by unfold mentions; split <;> simp
  have yp : y.part ∈ mentions y := by unfold mentions; split <;> simp
  have hne : x.part ≠ y.part := fun e => hd _ xp (by rw [e]; exact yp)
  have vx := validE_parts hx.ve
  have vy := validE_parts hy.ve
  have f1 : ∀ s, s ≠ x.part → findP (putL Part.name st p1) s = findP st s := fun s hs => by
    unfold findP; rw [put_find hi, n1, if_neg (fun e => hs e.symm)]
  have f2 : ∀ s, s ≠ y.part → findP (putL Part.name st p2) s = findP st s := fun s hs => by
    unfold findP; rw [put_find hi, n2, if_neg (fun e => hs e.symm)]
  have m1 : ∀ z, z ∈ putL Part.name st p1 ↔ z = p1 ∨ (z ∈ st ∧ z.name ≠ x.part) := fun z => by rw [put_mem hi, n1]
  have m2 : ∀ z, z ∈ putL Part.name st p2 ↔ z = p2 ∨ (z ∈ st ∧ z.name ≠ y.part) := fun z => by rw [put_mem hi, n2]
  -- where the part of x was, and is
  have wx : ∀ z ∈ st, z.name = x.part → z.into ≠ nil8 → p1.into = z.into ∧ p1.slot = z.slot := fun z hz hzn hzi => by
    rcases hx.how with ⟨_, h2, _, _, _⟩ | ⟨p, h1, _, h3x⟩
    · exact absurd hzn (find_none.1 h2 z hz)
    · have hp := (find_iff hi).1 h1
      have : z = p := inc_uniq hi hz hp.1 (by rw [hzn, hp.2])
      subst this
      rcases h3x with ⟨_, q, _, _, _, _, o6, _, rfl⟩ | ⟨o1, _, _⟩ | ⟨_, _, rfl⟩ | ⟨_, rfl⟩ | ⟨_, _, rfl⟩ | ⟨_, _, _, rfl⟩
      · exact absurd o6 hzi
      · exact absurd o1 h3
      all_goals exact ⟨rfl, rfl⟩
  have hyst : Step c st y p2 := by
    refine ⟨hx.vs, hy.ve, ?_⟩
    rcases hy.how with ⟨o1, o2, o3, o4, o5⟩ | ⟨p, h1, h2, h3y⟩
    · rw [f1 _ (Ne.symm hne)] at o2
      refine .inl ⟨o1, o2, o3, fun hl => o4 ?_, o5⟩
      have := hx.vs.len
      rw [put_len hi, at_find hi, n1]
      split
      · exact hl
      · rename_i hnf
        rcases hx.how with ⟨_, _, _, h4, _⟩ | ⟨p, h1, _, _⟩
        · exact absurd hl h4
        · exact absurd (by rw [show st.find? (fun y => decide (y.name = x.part)) = some p from h1]; rfl) hnf
    · rw [f1 _ (Ne.symm hne)] at h1
      refine .inr ⟨p, h1, h2, ?_⟩
      rcases h3y with ⟨o1, q, o2, o3, o4, o5, o6, o7, o8⟩ | ⟨o1, _, _⟩ | h | h | h | ⟨o1, o2, o3, o4⟩
      · have hyi : y.into ∈ mentions y := by simp [mentions, o1]
        have hni : y.into ≠ x.part := fun e => hd _ xp (by rw [← e]; exact hyi)
        rw [f1 _ hni] at o2
        refine .inl ⟨o1, q, o2, o3, o4, o5, o6, taken_iff.2 fun z hz ⟨e1, e2⟩ => ?_, o8⟩
        by_cases hzn : z.name = x.part
        · obtain ⟨w1, w2⟩ := wx z hz hzn (by rw [e1]; exact name_ne (vy.2.2.2.1 o1).1)
          exact taken_iff.1 o7 p1 ((m1 _).2 (.inl rfl)) ⟨by rw [w1, e1], by rw [w2, e2]⟩
        · exact taken_iff.1 o7 z ((m1 _).2 (.inr ⟨hz, hzn⟩)) ⟨e1, e2⟩
      · exact absurd o1 h3'
      · exact .inr (.inr (.inl h))
      · exact .inr (.inr (.inr (.inl h)))
      · exact .inr (.inr (.inr (.inr (.inl h))))
      · refine .inr (.inr (.inr (.inr (.inr ⟨o1, o2, holds_iff.2 fun z hz e1 => ?_, o4⟩))))
        have hp := (find_iff hi).1 h1
        by_cases hzn : z.name = x.part
        · obtain ⟨w1, w2⟩ := wx z hz hzn (by rw [e1, hp.2]; exact name_ne vy.1)
          exact holds_iff.1 o3 p1 ((m1 _).2 (.inl rfl)) (by rw [w1, e1])
        · exact holds_iff.1 o3 z ((m1 _).2 (.inr ⟨hz, hzn⟩)) e1
  refine ⟨hyst, hyst.valid, hx.ve, ?_⟩
  -- where the part of y is
  have wy : ∀ s, s ∈ mentions x → s ≠ nil8 → p2.into = s → ∃ z ∈ st, z.into = s ∧ z.slot = p2.slot ∧ z.name = y.part := fun s hs hsn he => by
    rcases hyst.how with ⟨_, h2, _, _, rfl⟩ | ⟨p, h1, _, h3y⟩
    · exact absurd he.symm hsn
    · have hp := (find_iff hi).1 h1
      rcases h3y with ⟨o1, q, _, _, _, _, o6, _, rfl⟩ | ⟨o1, _, _⟩ | ⟨_, _, rfl⟩ | ⟨_, rfl⟩ | ⟨_, _, rfl⟩ | ⟨_, _, _, rfl⟩
      · exact absurd (by rw [← he]; simp [mentions, o1]) (hd s hs)
      · exact absurd o1 h3'
      all_goals exact ⟨_, hp.1, he, rfl, hp.2⟩
  rcases hx.how with ⟨o1, o2, o3, o4, o5⟩ | ⟨p, h1, h2, h3x⟩
  · refine .inl ⟨o1, by rw [f2 _ hne]; exact o2, o3, fun hl => ?_, o5⟩
    rw [put_len hi, at_find hi, n2] at hl
    split at hl
    · exact o4 hl
    · rename_i hnf
      rcases hy.how with ⟨_, _, _, h4, _⟩ | ⟨p, h1, _, _⟩
      · apply h4
        rw [put_len hi, at_find hi, n1, if_neg]
        · exact hl
        · rw [show st.find? (fun y => decide (y.name = x.part)) = none from o2]; simp
      · rw [f1 _ (Ne.symm hne)] at h1
        exact hnf (by rw [show st.find? (fun z => decide (z.name = y.part)) = some p from h1]; rfl)
  · refine .inr ⟨p, by rw [f2 _ hne]; exact h1, h2, ?_⟩
    have hp := (find_iff hi).1 h1
    rcases h3x with ⟨o1, q, o2, o3, o4, o5, o6, o7, o8⟩ | ⟨o1, _, _⟩ | h | h | h | ⟨o1, o2, o3, o4⟩
    · have hxi : x.into ∈ mentions x := by simp [mentions, o1]
      have hni : x.into ≠ y.part := fun e => hd _ hxi (by rw [e]; exact yp)
      refine .inl ⟨o1, q, by rw [f2 _ hni]; exact o2, o3, o4, o5, o6, taken_iff.2 fun z hz ⟨e1, e2⟩ => ?_, o8⟩
      rcases (m2 z).1 hz with rfl | ⟨hz, _⟩
      · obtain ⟨w, hw, w1, w2, _⟩ := wy _ hxi (name_ne (vx.2.2.2.1 o1).1) e1
        exact taken_iff.1 o7 w hw ⟨w1, by rw [w2, e2]⟩
      · exact taken_iff.1 o7 z hz ⟨e1, e2⟩
    · exact absurd o1 h3
    · exact .inr (.inr (.inl h))
    · exact .inr (.inr (.inr (.inl h)))
    · exact .inr (.inr (.inr (.inr (.inl h))))
    · refine .inr (.inr (.inr (.inr (.inr ⟨o1, o2, holds_iff.2 fun z hz e1 => ?_, o4⟩))))
      rcases (m2 z).1 hz with rfl | ⟨hz, _⟩
      · obtain ⟨w, hw, w1, _, _⟩ := wy _ xp (name_ne vx.1) (by rw [e1, hp.2])
        exact holds_iff.1 o3 w hw (by rw [w1, hp.2])
      · exact holds_iff.1 o3 z hz e1
end Go.Sx

/- The course with two events exchanged. -/
set_option linter.all false
namespace Go.Sx
open Go
theorem names_of {e : Evt} (hv : validE e = true) (s : ByteArray) : s ∈ namesE e ↔ s ∈ mentions e := by
  unfold namesE mentions
  rw [if_neg (by simp [hv])]
  split
  · unfold minS maxS
    cases h1 : sLt e.part e.into with
    | true => simp
    | false =>
      by_cases h2 : e.part = e.into
      · rw [h2]; simp
      · simp [h2]
        constructor
        · rintro (h | h)
          · exact .inr h
          · exact .inl h
        · rintro (h | h)
          · exact .inr h
          · exact .inl h
  · rfl
end Go.Sx

/- The plain law of HistoryApart: events of parts that have nothing to do with each other. -/
set_option linter.all false
namespace Go.Sx
open Go
/-- a state in two parts: that of the names in D, and that of the others -/
structure Spl (D : ByteArray → Bool) (s a b : List Part) : Prop where
  is : Inc Part.name s
  ia : Inc Part.name a
  ib : Inc Part.name b
  mem : ∀ x, x ∈ s ↔ x ∈ a ∨ x ∈ b
  na : ∀ x ∈ a, D x.name = true ∧ (x.into = nil8 ∨ D x.into = true)
  nb : ∀ x ∈ b, D x.name = false ∧ (x.into = nil8 ∨ D x.into = false)
theorem Spl.nil (D : ByteArray → Bool) : Spl D [] [] [] := ⟨.nil, .nil, .nil, by simp, by simp, by simp⟩
theorem Spl.turn {D : ByteArray → Bool} {s a b : List Part} (h : Spl D s a b) : Spl (fun n => !D n) s b a :=
  ⟨h.is, h.ib, h.ia, fun x => by rw [h.mem x]; exact Or.comm, fun x hx => by simpa using h.nb x hx, fun x hx => by simpa using h.na x hx⟩
theorem Spl.find {D : ByteArray → Bool} {s a b : List Part} (h : Spl D s a b) {n : ByteArray} (hn : D n = true) : findP s n = findP a n := by
  refine Option.ext fun x => ?_
  show s.find? _ = some x ↔ a.find? _ = some x
  rw [find_iff h.is, find_iff h.ia, h.mem x]
  constructor
  · rintro ⟨h1 | h1, h2⟩
    · exact ⟨h1, h2⟩
    · have := (h.nb x h1).1
      rw [h2, hn] at this; cases this
  · rintro ⟨h1, h2⟩
    exact ⟨.inl h1, h2⟩
/-- an event of D alone -/
def Dev (D : ByteArray → Bool) (e : Evt) : Prop := ∀ z ∈ mentions e, D z = true
theorem Dev.part {D : ByteArray → Bool} {e : Evt} (h : Dev D e) : D e.part = true := h _ (by unfold mentions; split <;> simp)
theorem Dev.into {D : ByteArray → Bool} {e : Evt} (h : Dev D e) (ho : e.op = 2) : D e.into = true := h _ (by simp [mentions, ho])
theorem Spl.taken {D : ByteArray → Bool} {s a b : List Part} (h : Spl D s a b) {e : Evt} (hn : D e.into = true) (h0 : e.into ≠ nil8) : seatTaken s e = seatTaken a e := by
  unfold seatTaken
  rw [Bool.eq_iff_iff, List.any_eq_true, List.any_eq_true]
  constructor
  · rintro ⟨x, hx, hp⟩
    rcases (h.mem x).1 hx with h1 | h1
    · exact ⟨x, h1, hp⟩
    · have hi : x.into = e.into := by simp at hp; exact hp.1
      rcases (h.nb x h1).2 with h2 | h2
      · exact absurd (hi.symm.trans h2) h0
      · rw [hi, hn] at h2; cases h2
  · rintro ⟨x, hx, hp⟩
    exact ⟨x, (h.mem x).2 (.inl hx), hp⟩
theorem Spl.holds {D : ByteArray → Bool} {s a b : List Part} (h : Spl D s a b) {n : ByteArray} (hn : D n = true) (h0 : n ≠ nil8) : holdsAny s n = holdsAny a n := by
  unfold holdsAny
  rw [Bool.eq_iff_iff, List.any_eq_true, List.any_eq_true]
  constructor
  · rintro ⟨x, hx, hp⟩
    rcases (h.mem x).1 hx with h1 | h1
    · exact ⟨x, h1, hp⟩
    · have hi : x.into = n := by simpa using hp
      rcases (h.nb x h1).2 with h2 | h2
      · exact absurd (hi.symm.trans h2) h0
      · rw [hi, hn] at h2; cases h2
  · rintro ⟨x, hx, hp⟩
    exact ⟨x, (h.mem x).2 (.inl hx), hp⟩
theorem Spl.step {c : List Kind} {D : ByteArray → Bool} {s a b : List Part} (h : Spl D s a b) {e : Evt} (he : Dev D e) (vs : VS c s) (va : VS c a) (ls : s.length < 20000) (la : a.length < 20000) (p' : Part) : Step c s e p' ↔ Step c a e p' := by
  have f1 := h.find he.part
  constructor
  · intro hs
    obtain ⟨v1, v2, v3, v4, v5⟩ := validE_parts hs.ve
    refine ⟨va, hs.ve, ?_⟩
    rcases hs.how with ⟨h1, h2, h3, h4, h5⟩ | ⟨p, h1, h2, h3⟩
    · exact .inl ⟨h1, by rw [← f1]; exact h2, h3, by omega, h5⟩
    · refine .inr ⟨p, by rw [← f1]; exact h1, h2, ?_⟩
      have hpn : p.name = e.part := ((find_iff h.is).1 h1).2
      rcases h3 with ⟨o1, q, o2, o3, o4, o5, o6, o7, o8⟩ | h3 | h3 | h3 | h3 | ⟨o1, o2, o3, o4⟩
      · exact .inl ⟨o1, q, by rw [← h.find (he.into o1)]; exact o2, o3, o4, o5, o6, by rw [← h.taken (he.into o1) (name_ne (v4 o1).1)]; exact o7, o8⟩
      · exact .inr (.inl h3)
      · exact .inr (.inr (.inl h3))
      · exact .inr (.inr (.inr (.inl h3)))
      · exact .inr (.inr (.inr (.inr (.inl h3))))
      · exact .inr (.inr (.inr (.inr (.inr ⟨o1, o2, by rw [← h.holds (by rw [hpn]; exact he.part) (by rw [hpn]; exact name_ne v1)]; exact o3, o4⟩))))
  · intro hs
    obtain ⟨v1, v2, v3, v4, v5⟩ := validE_parts hs.ve
    refine ⟨vs, hs.ve, ?_⟩
    rcases hs.how with ⟨h1, h2, h3, h4, h5⟩ | ⟨p, h1, h2, h3⟩
    · exact .inl ⟨h1, by rw [f1]; exact h2, h3, by omega, h5⟩
    · refine .inr ⟨p, by rw [f1]; exact h1, h2, ?_⟩
      have hpn : p.name = e.part := ((find_iff h.ia).1 h1).2
      rcases h3 with ⟨o1, q, o2, o3, o4, o5, o6, o7, o8⟩ | h3 | h3 | h3 | h3 | ⟨o1, o2, o3, o4⟩
      · exact .inl ⟨o1, q, by rw [h.find (he.into o1)]; exact o2, o3, o4, o5, o6, by rw [h.taken (he.into o1) (name_ne (v4 o1).1)]; exact o7, o8⟩
      · exact .inr (.inl h3)
      · exact .inr (.inr (.inl h3))
      · exact .inr (.inr (.inr (.inl h3)))
      · exact .inr (.inr (.inr (.inr (.inl h3))))
      · exact .inr (.inr (.inr (.inr (.inr ⟨o1, o2, by rw [h.holds (by rw [hpn]; exact he.part) (by rw [hpn]; exact name_ne v1)]; exact o3, o4⟩))))
theorem Spl.put {c : List Kind} {D : ByteArray → Bool} {s a b : List Part} (h : Spl D s a b) {e : Evt} (he : Dev D e) {p' : Part} (hs : Step c a e p') : Spl D (putL Part.name s p') (putL Part.name a p') b := by
  have hn := hs.name
  refine ⟨put_inc _ h.is, put_inc _ h.ia, h.ib, fun x => ?_, fun x hx => ?_, h.nb⟩
  · rw [put_mem h.is, put_mem h.ia, h.mem x, hn]
    constructor
    · rintro (h1 | ⟨h1 | h1, h2⟩)
      · exact .inl (.inl h1)
      · exact .inl (.inr ⟨h1, h2⟩)
      · exact .inr h1
    · rintro ((h1 | ⟨h1, h2⟩) | h1)
      · exact .inl h1
      · exact .inr ⟨.inl h1, h2⟩
      · refine .inr ⟨.inr h1, fun h2 => ?_⟩
        have := (h.nb x h1).1
        rw [h2, he.part] at this; cases this
  · rcases (put_mem h.ia).1 hx with rfl | ⟨h1, _⟩
    · refine ⟨by rw [hn]; exact he.part, ?_⟩
      rcases hs.how with ⟨_, _, _, _, rfl⟩ | ⟨p, h1, h2, h3⟩
      · exact .inl rfl
      · have hp := h.na p ((find_iff h.ia).1 h1).1
        rcases h3 with ⟨o1, q, o2, o3, o4, o5, o6, o7, rfl⟩ | ⟨_, _, rfl⟩ | ⟨_, _, rfl⟩ | ⟨_, rfl⟩ | ⟨_, _, rfl⟩ | ⟨_, _, _, rfl⟩
        · exact .inr (he.into o1)
        · exact .inl rfl
        · exact hp.2
        · exact hp.2
        · exact hp.2
        · exact hp.2
    · exact h.na x h1
theorem put_le {l : List Part} {x : Part} (h : Inc Part.name l) : (putL Part.name l x).length ≤ l.length + 1 := by
  rw [put_len h]; split <;> omega
theorem step_or (c : List Kind) (s : List Part) (e : Evt) : (∃ p', Step c s e p' ∧ (applyF c s e).2 = 0 ∧ (applyF c s e).1 = putL Part.name s p') ∨ ((applyF c s e).2 ≠ 0 ∧ ∀ p', ¬ Step c s e p') := by
  by_cases h : (applyF c s e).2 = 0
  · obtain ⟨p', hp⟩ := of_apply h
    exact .inl ⟨p', hp, h, by rw [apply_of hp]; rfl⟩
  · exact .inr ⟨h, fun p' hp => h (by rw [apply_of hp]; rfl)⟩
theorem runs_split {c : List Kind} {D : ByteArray → Bool} : ∀ (Z : List Evt) (s a b : List Part), Spl D s a b → VS c s → VS c a → VS c b → s.length + Z.length < 20000 → a.length + Z.length < 20000 → b.length + Z.length < 20000 →
    (∀ e ∈ Z, Dev D e ∨ Dev (fun n => !D n) e) → (runsTo c s Z).isSome = ((runsTo c a (Z.filter fun e => D e.part)).isSome && (runsTo c b (Z.filter fun e => !D e.part)).isSome)
  | [], _, _, _, _, _, _, _, _, _, _, _ => rfl
  | e :: r, s, a, b, h, vs, va, vb, ls, la, lb, hd => by
    simp only [List.length_cons] at ls la lb
    rcases hd e (by simp) with he | he
    · have hp := he.part
      have hst := fun p' => h.step he vs va (by omega) (by omega) p'
      simp only [List.filter_cons, hp, Bool.not_true, if_true, Bool.false_eq_true, if_false]
      rcases step_or c a e with ⟨p', h1, h2, h3⟩ | ⟨h1, h2⟩
      · have h4 := (hst p').2 h1
        have e4 : applyF c s e = putR s p' := apply_of h4
        simp only [runsTo]
        rw [if_pos h2, h3, if_pos (by rw [e4]; rfl), e4]
        have l1 := put_le (x := p') h.is
        have l2 := put_le (x := p') h.ia
        exact runs_split r _ _ _ (h.put he h1) h4.valid h1.valid vb (by show (putL Part.name s p').length + r.length < 20000; omega) (by omega) (by omega) fun x hx => hd x (by simp [hx])
      · simp only [runsTo]
        rw [if_neg h1, if_neg (fun h0 => by obtain ⟨p', hp'⟩ := of_apply h0; exact h2 p' ((hst p').1 hp'))]
        rfl
    · have hp : D e.part = false := by simpa using he.part
      have hst := fun p' => h.turn.step he vs vb (by omega) (by omega) p'
      simp only [List.filter_cons, hp, Bool.not_false, if_true, Bool.false_eq_true, if_false]
      rcases step_or c b e with ⟨p', h1, h2, h3⟩ | ⟨h1, h2⟩
      · have h4 := (hst p').2 h1
        have e4 : applyF c s e = putR s p' := apply_of h4
        simp only [runsTo]
        rw [if_pos h2, h3, if_pos (by rw [e4]; rfl), e4]
        have l1 := put_le (x := p') h.is
        have l2 := put_le (x := p') h.ib
        have ht := (h.turn.put he h1).turn
        have ht : Spl D (putL Part.name s p') a (putL Part.name b p') := ⟨ht.is, ht.ia, ht.ib, ht.mem, fun x hx => by simpa using ht.na x hx, fun x hx => by simpa using ht.nb x hx⟩
        exact runs_split r _ _ _ ht h4.valid va h1.valid (by show (putL Part.name s p').length + r.length < 20000; omega) (by omega) (by omega) fun x hx => hd x (by simp [hx])
      · simp only [runsTo]
        rw [if_neg h1, if_neg (fun h0 => by obtain ⟨p', hp'⟩ := of_apply h0; exact h2 p' ((hst p').1 hp'))]
        simp
theorem vs_nil {c : List Kind} (h : validC c = true) : VS c [] := ⟨h, by simp, .nil, by simp, by simp, by simp, by simp⟩
/-! the law -/
/-! the names that are seen -/
def Seen (kvs : List (ByteArray × Value)) (p : ByteArray → Bool) : Prop := ∀ s, (mget kvs s).getD (.bool false) = .bool (p s)
theorem Seen.nil {p : ByteArray → Bool} (h : ∀ s, p s = false) : Seen [] p := fun s => by rw [h s]; rfl
theorem Seen.put {kvs : List (ByteArray × Value)} {p q : ByteArray → Bool} (h : Seen kvs p) (k : ByteArray) (hq : ∀ s, q s = (p s || decide (k = s))) : Seen (mput kvs k (.bool true)) q := fun s => by
  rw [mget_mput, hq s]
  by_cases hk : k = s
  · simp [hk]
  · simp [hk, h s]
theorem Seen.congr {kvs : List (ByteArray × Value)} {p q : ByteArray → Bool} (h : Seen kvs p) (hq : ∀ s, q s = p s) : Seen kvs q := fun s => by rw [h s, hq s]
end Go.Sx

/- Which reports belong together: forests, roots, components. -/
set_option linter.all false
namespace Go.Sx
open Go
/-! forests -/
/-- the index that an index has -/
def up (F : List Nat) (i : Nat) : Nat := F.getD i i
/-- the root of an index -/
def rt (F : List Nat) (i : Nat) : Nat := if h : up F i < i then rt F (up F i) else i
termination_by i
section
variable {F G : List Nat} {i j x : Nat}
theorem rt_step (h : up F i < i) : rt F i = rt F (up F i) := by rw [rt, dif_pos h]
theorem rt_stop (h : ¬ up F i < i) : rt F i = i := by rw [rt, dif_neg h]
theorem rt_le (F : List Nat) (i : Nat) : rt F i ≤ i := by
  induction i using Nat.strongRecOn with
  | ind i ih =>
    by_cases h : up F i < i
    · rw [rt_step h]; exact Nat.le_trans (ih _ h) (Nat.le_of_lt h)
    · rw [rt_stop h]; exact Nat.le_refl _
theorem rt_root (F : List Nat) (i : Nat) : ¬ up F (rt F i) < rt F i := by
  induction i using Nat.strongRecOn with
  | ind i ih =>
    by_cases h : up F i < i
    · rw [rt_step h]; exact ih _ h
    · rw [rt_stop h]; exact h
theorem rt_idem (F : List Nat) (i : Nat) : rt F (rt F i) = rt F i := rt_stop (rt_root F i)
theorem rt_congr (h : ∀ j, up F j = up G j) (i : Nat) : rt F i = rt G i := by
  induction i using Nat.strongRecOn with
  | ind i ih =>
    by_cases h1 : up F i < i
    · rw [rt_step h1, rt_step (F := G) (by rw [← h]; exact h1), ← h i]; exact ih _ h1
    · rw [rt_stop h1, rt_stop (F := G) (by rw [← h]; exact h1)]
/-- each has a lesser one, or itself -/
def Fst (F : List Nat) : Prop := ∀ i, up F i ≤ i
theorem up_at (hi : i < F.length) : up F i = F[i] := by simp [up, List.getD, hi]
theorem up_set (hi : i < F.length) : up (F.set i x) j = if j = i then x else up F j := by
  unfold up List.getD
  rw [List.getElem?_set]
  by_cases h : i = j
  · subst h; simp [hi]
  · have h2 : ¬ j = i := fun e => h e.symm
    simp [h, h2]
theorem Fst.half (h : Fst F) (hi : i < F.length) : Fst (F.set i (up F (up F i))) ∧ ∀ j, rt (F.set i (up F (up F i))) j = rt F j := by
  refine ⟨fun j => ?_, fun j => ?_⟩
  · rw [up_set hi]
    split
    · rename_i e; subst e; exact Nat.le_trans (h _) (h _)
    · exact h j
  · induction j using Nat.strongRecOn with
    | ind j ih =>
      by_cases e : j = i
      · subst e
        have e1 : up (F.set j (up F (up F j))) j = up F (up F j) := by rw [up_set hi, if_pos rfl]
        by_cases h1 : up F j < j
        · have h2 : up F (up F j) < j := Nat.lt_of_le_of_lt (h _) h1
          rw [rt_step (by rw [e1]; exact h2), e1, ih _ h2, rt_step h1]
          by_cases h3 : up F (up F j) < up F j
          · rw [rt_step h3]
          · have h4 : up F (up F j) = up F j := Nat.le_antisymm (h _) (Nat.not_lt.1 h3)
            rw [h4]
        · have h4 : up F j = j := Nat.le_antisymm (h _) (Nat.not_lt.1 h1)
          rw [rt_stop h1, rt_stop (by rw [e1, h4, h4]; exact Nat.lt_irrefl _)]
      · have e1 : up (F.set i (up F (up F i))) j = up F j := by rw [up_set hi, if_neg e]
        by_cases h1 : up F j < j
        · rw [rt_step (by rw [e1]; exact h1), e1, ih _ h1, rt_step h1]
        · rw [rt_stop h1, rt_stop (by rw [e1]; exact h1)]
theorem Fst.join {a b : Nat} (h : Fst F) (ha : rt F a = a) (hb : rt F b = b) (hab : a ≤ b) (hl : b < F.length) : Fst (F.set b a) ∧ ∀ j, rt (F.set b a) j = if rt F j = b then a else rt F j := by
  have ua : ¬ up F a < a := by have := rt_root F a; rwa [ha] at this
  have ub : ¬ up F b < b := by have := rt_root F b; rwa [hb] at this
  refine ⟨fun j => ?_, fun j => ?_⟩
  · rw [up_set hl]
    split
    · omega
    · exact h j
  · induction j using Nat.strongRecOn with
    | ind j ih =>
      by_cases e : j = b
      · subst e
        have e1 : up (F.set j a) j = a := by rw [up_set hl, if_pos rfl]
        by_cases h1 : a < j
        · rw [rt_step (by rw [e1]; exact h1), e1, ih _ h1, ha, hb, if_pos rfl, if_neg (by omega)]
        · have : a = j := by omega
          subst this
          rw [rt_stop (by rw [e1]; exact h1), ha, if_pos rfl]
      · have e1 : up (F.set b a) j = up F j := by rw [up_set hl, if_neg e]
        by_cases h1 : up F j < j
        · rw [rt_step (by rw [e1]; exact h1), e1, ih _ h1, ← rt_step h1]
        · rw [rt_stop h1, rt_stop (by rw [e1]; exact h1), if_neg e]
theorem Fst.meet {a b : Nat} (h : Fst F) (ha : rt F a = a) (hb : rt F b = b) (hla : a < F.length) (hlb : b < F.length) : Fst (F.set (max a b) (min a b)) ∧ ∀ j, rt (F.set (max a b) (min a b)) j = if rt F j = a ∨ rt F j = b then min a b else rt F j := by
  rcases Nat.le_total a b with hab | hab
  · rw [Nat.max_eq_right hab, Nat.min_eq_left hab]
    obtain ⟨h1, h2⟩ := h.join ha hb hab hlb
    refine ⟨h1, fun j => ?_⟩
    rw [h2 j]
    by_cases e1 : rt F j = b
    · rw [if_pos e1, if_pos (.inr e1)]
    · by_cases e2 : rt F j = a
      · rw [if_neg e1, if_pos (.inl e2), e2]
      · rw [if_neg e1, if_neg (by rintro (h | h) <;> contradiction)]
  · rw [Nat.max_eq_left hab, Nat.min_eq_right hab]
    obtain ⟨h1, h2⟩ := h.join hb ha hab hla
    refine ⟨h1, fun j => ?_⟩
    rw [h2 j]
    by_cases e1 : rt F j = a
    · rw [if_pos e1, if_pos (.inl e1)]
    · by_cases e2 : rt F j = b
      · rw [if_neg e1, if_pos (.inr e2), e2]
      · rw [if_neg e1, if_neg (by rintro (h | h) <;> contradiction)]
theorem up_snoc (F : List Nat) (j : Nat) : up (F ++ [F.length]) j = up F j := by
  unfold up List.getD
  rcases Nat.lt_or_ge j F.length with h | h
  · rw [List.getElem?_append_left h]
  · rw [List.getElem?_append_right h, List.getElem?_eq_none h]
    rcases Nat.eq_or_lt_of_le h with e | h2
    · subst e; simp
    · rw [List.getElem?_eq_none (by simp; omega)]
theorem Fst.snoc (h : Fst F) : Fst (F ++ [F.length]) := fun j => by rw [up_snoc]; exact h j
theorem rt_snoc (F : List Nat) (j : Nat) : rt (F ++ [F.length]) j = rt F j := rt_congr (up_snoc F) j
theorem rt_out (h : F.length ≤ i) : rt F i = i := rt_stop (by unfold up List.getD; rw [List.getElem?_eq_none h]; simp)
end
/-! reports that are linked -/
/-- a valid report mentions a name -/
def nm (r : Rep) (z : ByteArray) : Prop := validRep r = true ∧ ∃ e ∈ r.options, z ∈ mentions e
theorem nm_of {r : Rep} {ns : List ByteArray} (hn : NamesOf r ns) (z : ByteArray) : z ∈ ns ↔ nm r z := by
  rw [hn.1 z]
  constructor
  · rintro ⟨hv, e, he, h⟩; exact ⟨hv, e, he, (names_of (validRep_e hv e he) z).1 h⟩
  · rintro ⟨hv, e, he, h⟩; exact ⟨hv, e, he, (names_of (validRep_e hv e he) z).2 h⟩
inductive Lnk (l : List Rep) : Nat → Nat → Prop
  | refl (i : Nat) : Lnk l i i
  | one {i k : Nat} {z : ByteArray} (hi : i < l.length) (hk : k < l.length) (h1 : nm l[i] z) (h2 : nm l[k] z) : Lnk l i k
  | symm {i k : Nat} : Lnk l i k → Lnk l k i
  | trans {i k m : Nat} : Lnk l i k → Lnk l k m → Lnk l i m
/-- the least ones of components -/
structure Rts (l : List Rep) (R : Nat → Nat) : Prop where
  le : ∀ i, R i ≤ i
  idem : ∀ i, R (R i) = R i
  share : ∀ {i k : Nat} {z : ByteArray} (hi : i < l.length) (hk : k < l.length), nm l[i] z → nm l[k] z → R i = R k
  sound : ∀ i, Lnk l i (R i)
theorem Rts.lnk {l : List Rep} {R : Nat → Nat} (h : Rts l R) {i k : Nat} (hl : Lnk l i k) : R i = R k := by
  induction hl with
  | refl => rfl
  | one hi hk h1 h2 => exact h.share hi hk h1 h2
  | symm _ ih => exact ih.symm
  | trans _ _ h1 h2 => exact h1.trans h2
theorem Rts.uniq {l : List Rep} {R R' : Nat → Nat} (h : Rts l R) (h' : Rts l R') : R = R' := by
  funext i
  have h1 := h'.lnk (h.sound i)
  have h2 := h.lnk (h'.sound i)
  have h3 := h'.le (R i)
  have h4 := h.le (R' i)
  omega
theorem least_ex {p : Nat → Prop} : ∀ n, p n → ∃ m, p m ∧ m ≤ n ∧ ∀ k, p k → m ≤ k := by
  intro n
  induction n using Nat.strongRecOn with
  | ind n ih =>
    intro hn
    by_cases h : ∃ k, k < n ∧ p k
    · obtain ⟨k, hk, hp⟩ := h
      obtain ⟨m, h1, h2, h3⟩ := ih k hk hp
      exact ⟨m, h1, by omega, h3⟩
    · exact ⟨n, hn, Nat.le_refl _, fun k hk => Nat.le_of_not_lt fun h2 => h ⟨k, h2, hk⟩⟩
theorem roots_ex (l : List Rep) : ∃ R, Rts l R := by
  have h : ∀ i, ∃ m, Lnk l i m ∧ m ≤ i ∧ ∀ k, Lnk l i k → m ≤ k := fun i => least_ex i (.refl i)
  refine ⟨fun i => Classical.choose (h i), ?_⟩
  have hs := fun i => (Classical.choose_spec (h i)).1
  have hle := fun i => (Classical.choose_spec (h i)).2.1
  have hm := fun i => (Classical.choose_spec (h i)).2.2
  have key : ∀ i k, Lnk l i k → Classical.choose (h i) = Classical.choose (h k) := fun i k hl => by
    have h1 := hm i _ (hl.trans (hs k))
    have h2 := hm k _ (hl.symm.trans (hs i))
    omega
  exact ⟨hle, fun i => (key _ _ (hs i)).symm, fun hi hk h1 h2 => key _ _ (.one hi hk h1 h2), hs⟩
/-! what linking does, step by step -/
structure Lkd (l : List Rep) (n : Nat) (S : Nat → ByteArray → Prop) (F : List Nat) (fm : ByteArray → Option Nat) : Prop where
  fst : Fst F
  len : F.length = n
  nl : n ≤ l.length
  lt : ∀ k z, S k z → k < n
  seen : ∀ k z, S k z → ∃ q, fm z = some q ∧ rt F q = rt F k
  own : ∀ z q, fm z = some q → q < n ∧ ∃ h : q < l.length, nm l[q] z
  sound : ∀ k, Lnk l k (rt F k)
section
variable {l : List Rep} {n i : Nat} {S S' : Nat → ByteArray → Prop} {F F' : List Nat} {fm : ByteArray → Option Nat} {z : ByteArray}
theorem Lkd.start : Lkd l 0 (fun _ _ => False) [] (fun _ => none) :=
  ⟨fun i => by simp [up], rfl, Nat.zero_le _, fun _ _ h => h.elim, fun _ _ h => h.elim, fun _ _ h => by simp at h, fun k => by rw [rt_out (by simp)]; exact .refl k⟩
theorem Lkd.congr (h : Lkd l n S F fm) (hS : ∀ k z, S' k z → S k z) : Lkd l n S' F fm :=
  ⟨h.fst, h.len, h.nl, fun k z q => h.lt k z (hS k z q), fun k z q => h.seen k z (hS k z q), h.own, h.sound⟩
theorem Lkd.push (h : Lkd l n S F fm) (hn : n < l.length) : Lkd l (n + 1) S (F ++ [n]) fm := by
  obtain rfl := h.len
  refine ⟨h.fst.snoc, by simp, hn, fun k z q => by have := h.lt k z q; omega, fun k z q => ?_, fun z q hq => ?_, fun k => by rw [rt_snoc]; exact h.sound k⟩
  · obtain ⟨m, h1, h2⟩ := h.seen k z q
    exact ⟨m, h1, by rw [rt_snoc, rt_snoc]; exact h2⟩
  · obtain ⟨h1, h2⟩ := h.own z q hq
    exact ⟨by omega, h2⟩
theorem Lkd.same (h : Lkd l n S F fm) (hf : Fst F') (hl : F'.length = F.length) (hr : ∀ j, rt F' j = rt F j) : Lkd l n S F' fm :=
  ⟨hf, hl.trans h.len, h.nl, h.lt, fun k z q => by obtain ⟨m, h1, h2⟩ := h.seen k z q; exact ⟨m, h1, by rw [hr, hr]; exact h2⟩, h.own, fun k => by rw [hr]; exact h.sound k⟩
theorem Lkd.hit {q : Nat} (h : Lkd l n S F fm) (hi : i < n) (hz : ∃ h : i < l.length, nm l[i] z) (hq : fm z = some q) (hf : Fst F') (hl : F'.length = F.length) (hr : ∀ j, rt F' j = if rt F j = rt F q ∨ rt F j = rt F i then min (rt F q) (rt F i) else rt F j) :
    Lkd l n (fun k y => S k y ∨ k = i ∧ y = z) F' fm := by
  have hc : ∀ a b, rt F a = rt F b → rt F' a = rt F' b := fun a b e => by rw [hr, hr, e]
  refine ⟨hf, hl.trans h.len, h.nl, fun k y hk => ?_, fun k y hk => ?_, h.own, fun k => ?_⟩
  · rcases hk with hk | ⟨rfl, rfl⟩
    · exact h.lt k y hk
    · exact hi
  · rcases hk with hk | ⟨rfl, rfl⟩
    · obtain ⟨m, h1, h2⟩ := h.seen k y hk
      exact ⟨m, h1, hc _ _ h2⟩
    · exact ⟨q, hq, by rw [hr, hr, if_pos (.inl rfl), if_pos (.inr rfl)]⟩
  · rw [hr]
    obtain ⟨_, hql, hqz⟩ := h.own z q hq
    obtain ⟨hil, hiz⟩ := hz
    have hqi : Lnk l q i := .one hql hil hqz hiz
    split
    · rename_i e
      have h1 : Lnk l k q := by
        rcases e with e | e
        · exact (h.sound k).trans (e ▸ (h.sound q).symm)
        · exact ((h.sound k).trans (e ▸ (h.sound i).symm)).trans hqi.symm
      rcases Nat.le_total (rt F q) (rt F i) with h2 | h2
      · rw [Nat.min_eq_left h2]; exact h1.trans (h.sound q)
      · rw [Nat.min_eq_right h2]; exact (h1.trans hqi).trans (h.sound i)
    · exact h.sound k
theorem Lkd.new (h : Lkd l n S F fm) (hi : i < n) (hz : ∃ h : i < l.length, nm l[i] z) (hq : fm z = none) : Lkd l n (fun k y => S k y ∨ k = i ∧ y = z) F (fun y => if z = y then some i else fm y) := by
  refine ⟨h.fst, h.len, h.nl, fun k y hk => ?_, fun k y hk => ?_, fun y q hy => ?_, h.sound⟩
  · rcases hk with hk | ⟨rfl, rfl⟩
    · exact h.lt k y hk
    · exact hi
  · rcases hk with hk | ⟨rfl, rfl⟩
    · obtain ⟨m, h1, h2⟩ := h.seen k y hk
      refine ⟨m, ?_, h2⟩
      show (if z = y then some i else fm y) = some m
      rw [if_neg (by rintro rfl; rw [hq] at h1; cases h1)]; exact h1
    · exact ⟨k, by simp, rfl⟩
  · split at hy
    · rename_i e; subst e
      obtain rfl := Option.some.inj hy
      exact ⟨hi, hz⟩
    · exact h.own y q hy
theorem Lkd.done (h : Lkd l l.length S F fm) (hS : ∀ k z (hk : k < l.length), nm l[k] z → S k z) : Rts l (rt F) := by
  refine ⟨rt_le F, rt_idem F, fun {i k z} hi hk h1 h2 => ?_, h.sound⟩
  obtain ⟨q, e1, e2⟩ := h.seen i z (hS i z hi h1)
  obtain ⟨q', e3, e4⟩ := h.seen k z (hS k z hk h2)
  rw [e1] at e3
  obtain rfl := Option.some.inj e3
  exact e2.symm.trans e4
end
/-! components -/
/-- the roots below a number, in order -/
def rootsN (R : Nat → Nat) (n : Nat) : List Nat := (List.range n).filter fun i => decide (R i = i)
/-- the members of a component below a number -/
def membN (R : Nat → Nat) (n r : Nat) : List Nat := (List.range n).filter fun k => decide (R k = r)
def compsN (R : Nat → Nat) (n : Nat) : List (List Nat) := (rootsN R n).map (membN R n)
section
variable {R : Nat → Nat} {n r k : Nat}
theorem mem_roots : k ∈ rootsN R n ↔ k < n ∧ R k = k := by simp [rootsN]
theorem mem_memb : k ∈ membN R n r ↔ k < n ∧ R k = r := by simp [membN]
theorem roots_succ : rootsN R (n + 1) = if R n = n then rootsN R n ++ [n] else rootsN R n := by
  unfold rootsN
  rw [List.range_succ, List.filter_append]
  by_cases h : R n = n <;> simp [h]
theorem memb_succ : membN R (n + 1) r = if R n = r then membN R n r ++ [n] else membN R n r := by
  unfold membN
  rw [List.range_succ, List.filter_append]
  by_cases h : R n = r <;> simp [h]
theorem memb_new (hle : ∀ i, R i ≤ i) (h : R n = n) : membN R (n + 1) n = [n] := by
  rw [memb_succ, if_pos h]
  have : membN R n n = [] := by
    unfold membN; rw [List.filter_eq_nil_iff]
    intro k hk
    have := List.mem_range.1 hk
    have := hle k
    simp; omega
  rw [this]; rfl
theorem roots_nodup : (rootsN R n).Nodup := List.nodup_range.filter _
/-- one more index, of a new component -/
theorem comps_new (hle : ∀ i, R i ≤ i) (h : R n = n) : compsN R (n + 1) = compsN R n ++ [[n]] := by
  unfold compsN
  rw [roots_succ, if_pos h, List.map_append, List.map_cons, List.map_nil, memb_new hle h]
  congr 1
  refine List.map_congr_left fun r hr => ?_
  have := (mem_roots.1 hr).1
  rw [memb_succ, if_neg (by omega)]
/-- one more index, of a component that is there -/
theorem comps_old (hk : k < (rootsN R n).length) (h : (rootsN R n)[k] = R n) : compsN R (n + 1) = (compsN R n).set k ((compsN R n)[k]'(by simpa [compsN] using hk) ++ [n]) := by
  have hr := (mem_roots.1 (List.getElem_mem hk))
  have hn : ¬ R n = n := by omega
  refine List.ext_getElem ?_ fun j h1 h2 => ?_
  · simp [compsN, roots_succ, hn]
  · have e : rootsN R (n + 1) = rootsN R n := by rw [roots_succ, if_neg hn]
    have hj : j < (rootsN R n).length := by simpa [compsN, e] using h1
    rw [List.getElem_set]
    simp only [compsN, List.getElem_map, e]
    by_cases hjk : k = j
    · subst hjk
      rw [if_pos rfl, memb_succ, if_pos h.symm]
    · rw [if_neg hjk, memb_succ, if_neg]
      intro e2
      rcases Nat.lt_or_gt_of_ne hjk with hlt | hlt
      · exact List.pairwise_iff_getElem.1 (roots_nodup (R := R) (n := n)) k j hk hj hlt (h.trans e2)
      · exact List.pairwise_iff_getElem.1 (roots_nodup (R := R) (n := n)) j k hj hk hlt (h.trans e2).symm
theorem comps_len : (compsN R n).length = (rootsN R n).length := by simp [compsN]
end
end Go.Sx

/- Lists of one's own within a list of one's own; maps with numbers as_ keys. -/
set_option linter.all false
namespace Go.Sx
open Go
theorem Fst.rt_up {F : List Nat} (h : Fst F) (i : Nat) : rt F (up F i) = rt F i := by
  by_cases h1 : up F i < i
  · rw [rt_step h1]
  · rw [show up F i = i from Nat.le_antisymm (h i) (Nat.not_lt.1 h1)]
/-! numbers -/
def natC (F : List Nat) : List (List Value) := F.map fun (x : Nat) => [ci (x : Int)]
def nI (F : List Nat) : List Int := F.map fun (x : Nat) => (x : Int)
section
variable {F : List Nat} {rest : List (List Value)} {i x : Nat}
theorem natC_uk (F : List Nat) : Uk 1 (natC F) := fun c hc => by obtain ⟨x, _, rfl⟩ := List.mem_map.1 hc; rfl
theorem natC_len (F : List Nat) : (natC F).length = F.length := by simp [natC]
theorem natC_at (h : i < F.length) : (natC F ++ rest)[i]? = some [ci ((F[i] : Nat) : Int)] := by
  rw [List.getElem?_append_left (by rw [natC_len]; exact h)]; simp [natC, h]
theorem natC_set (h : i < F.length) (x : Nat) : (natC F ++ rest).set i [ci (x : Int)] = natC (F.set i x) ++ rest := by
  rw [List.set_append_left _ _ (by rw [natC_len]; exact h)]; simp [natC, List.map_set]
theorem natC_snoc (F : List Nat) (x : Nat) : (natC F).flatten ++ [ci (x : Int)] = (natC (F ++ [x])).flatten := by simp [natC]
theorem nI_len (F : List Nat) : (nI F).length = F.length := by simp [nI]
theorem nI_at (h : i < F.length) (h2 : i < (nI F).length) : (nI F)[i] = (F[i] : Nat) := by simp [nI]
theorem natC_flat {I : IMap} (F : List Nat) : Flat I (natC F).flatten (nI F) := by
  induction F with
  | nil => exact .nil
  | cons x F ih => exact .cons (vs := [ci (x : Int)]) rfl ih
end
/-! maps with numbers as_ keys -/
def encI (k : Int) : Value := .int .i64 k
theorem key_int {P : Program} {kt : TypeId} (h : P.underlying kt = some (.int .i64)) : KeyOK P kt encI where
  find := by
    intro w k es kvs he
    have key : ∀ (es : List MapEntry) (kvs : List (Int × Value)) (i : Nat), es.map (fun e => (e.key, e.val)) = emap encI kvs → Instr.findNow (.int .i64) (encI k) es i = some (mfind kvs k i) := by
      intro es
      induction es with
      | nil => intro kvs i he; cases kvs <;> simp_all [emap, Instr.findNow, mfind]
      | cons e es ih =>
        intro kvs i he
        cases kvs with
        | nil => simp [emap] at he
        | cons p kvs =>
          obtain ⟨k', v⟩ := p
          simp only [List.map_cons, emap, List.cons.injEq, Prod.mk.injEq] at he
          obtain ⟨⟨h1, h2⟩, h3⟩ := he
          simp only [Instr.findNow, h1, encI, Instr.sameNow, if_true]
          by_cases hk : k' = k
          · subst hk; simp [mfind, h2]
          · have h4 : ¬ k = k' := fun e => hk e.symm
            have h5 : (k == k') = false := by simpa using h4
            simp only [h5, mfind, if_neg hk]
            exact ih kvs (i + 1) h3
    simp only [Instr.findKey, Sem.run_bind, run_underlying h, Result.andThen_ok, key es kvs 0 he]
    rfl
  check := by
    intro w b k
    show (Instr.checkKey b (9999 + 1) kt (Value.int .i64 k)).run P w = _
    rw [Instr.checkKey]
    simp [run_underlying h]
  same := by
    intro k
    show (IntKind.i64 == IntKind.i64 && k == k) = true
    simp
/-! things of one kind, as_ many as_ a list has elements -/
section
variable {P : Program} {n : Sz} {E : Ent} {I : IMap} {L : LL} {H : List Res} {K : Act → World → Prop} {α : Type} {f : α → Res} {l : List α} {k : Nat} {a b c d e : Res}
theorem cut_perm {β : Type} (g : α → β) (hk : k < l.length) : (l.map g).Perm (g l[k] :: (cutAt l k).map g) := by
  conv => lhs; rw [cut_whole hk]
  rw [cutAt, List.map_append, List.map_append, List.map_cons]
  exact List.perm_middle
theorem set_perm {β : Type} (g : α → β) (hk : k < l.length) (x : α) : (g x :: (cutAt l k).map g).Perm ((l.set k x).map g) := by
  rw [set_mid hk, cutAt, List.map_append, List.map_append, List.map_cons]
  exact List.perm_middle.symm
theorem sx_pull (H0 : List Res) (hk : k < l.length) (h : SX n E I L (f l[k] :: (H0 ++ (cutAt l k).map f)) K) : SX n E I L (H0 ++ l.map f) K :=
  sx_perm (((cut_perm f hk).append_left H0).trans List.perm_middle) h
theorem sx_push (H0 : List Res) (x : α) (hk : k < l.length) (h : SX n E I L (H0 ++ (l.set k x).map f) K) : SX n E I L (f x :: (H0 ++ (cutAt l k).map f)) K :=
  sx_perm ((List.perm_middle.symm).trans ((set_perm f hk x).append_left H0)) h
theorem sx_join (H0 : List Res) (x : α) (h : SX n E I L (H0 ++ (l ++ [x]).map f) K) : SX n E I L (f x :: (H0 ++ l.map f)) K := by
  refine sx_perm ?_ h
  rw [List.map_append, List.map_cons, List.map_nil, ← List.append_assoc]
  exact (List.perm_append_singleton (f x) (H0 ++ l.map f)).symm
theorem sx_pull3 (hk : k < l.length) (h : SX n E I L (f l[k] :: a :: b :: c :: (cutAt l k).map f) K) : SX n E I L (a :: b :: c :: l.map f) K := sx_pull [a, b, c] hk h
theorem sx_pull4 (hk : k < l.length) (h : SX n E I L (f l[k] :: a :: b :: c :: d :: (cutAt l k).map f) K) : SX n E I L (a :: b :: c :: d :: l.map f) K := sx_pull [a, b, c, d] hk h
theorem sx_push3 (x : α) (hk : k < l.length) (h : SX n E I L (a :: b :: c :: (l.set k x).map f) K) : SX n E I L (f x :: a :: b :: c :: (cutAt l k).map f) K := sx_push [a, b, c] x hk h
theorem sx_push4 (x : α) (hk : k < l.length) (h : SX n E I L (a :: b :: c :: d :: (l.set k x).map f) K) : SX n E I L (f x :: a :: b :: c :: d :: (cutAt l k).map f) K := sx_push [a, b, c, d] x hk h
theorem sx_join3 (x : α) (h : SX n E I L (a :: b :: c :: (l ++ [x]).map f) K) : SX n E I L (f x :: a :: b :: c :: l.map f) K := sx_join [a, b, c] x h
theorem sx_join4 (x : α) (h : SX n E I L (a :: b :: c :: d :: (l ++ [x]).map f) K) : SX n E I L (f x :: a :: b :: c :: d :: l.map f) K := sx_join [a, b, c, d] x h
end
/-! lists of numbers of one's own -/
/-- a list of numbers: its value, its elements -/
abbrev Lst := Value × List Nat
abbrev lstR (e : Nat) (p : Lst) : Res := .row p.1 e 1 p.2.length (natC p.2).flatten
section
variable {P : Program} {n : Sz} {E : Ent} {I : IMap} {L : LL} {H : List Res} {K : Act → World → Prop} {e : Nat}
/-- all of them become immutable -/
theorem sx_publst : ∀ (Q : List Lst) {I : IMap}, (∀ I', ILe I I' → (∀ p ∈ Q, RdS I' p.1 (nI p.2)) → SX n E I' L H K) → SX n E I L (Q.map (lstR e) ++ H) K
  | [], I, h => h I (ILe.refl _) fun p hp => by cases hp
  | q :: Q, I, h => by
    show SX n E I L (lstR e q :: (Q.map (lstR e) ++ H)) K
    refine sx_pubrow (l := nI q.2) rfl (nI_len _).symm (natC_flat _) fun I1 j1 R1 => ?_
    refine sx_publst Q fun I' hI h2 => h I' (j1.trans hI) fun p hp => ?_
    rcases List.mem_cons.1 hp with rfl | hp
    · exact R1.le hI
    · exact h2 p hp
theorem sx_publst1 {r : Res} (Q : List Lst) (h : ∀ I', ILe I I' → (∀ p ∈ Q, RdS I' p.1 (nI p.2)) → SX n E I' L [r] K) : SX n E I L (r :: Q.map (lstR e)) K :=
  sx_perm (by simpa using (List.perm_append_comm (l₁ := [r]) (l₂ := Q.map (lstR e)))) (sx_publst Q h)
/-- the values of lists, as_ the elements of a list -/
theorem lst_flat {I : IMap} : ∀ (Q : List Lst), (∀ p ∈ Q, RdS I p.1 (nI p.2)) → Flat I (Q.map (·.1)) (Q.map fun p => nI p.2)
  | [], _ => .nil
  | q :: Q, h => .cons (vs := [q.1]) ⟨_, rfl, h q (by simp)⟩ (lst_flat Q fun p hp => h p (by simp [hp]))
end
/-- the values of lists in cells -/
def vC (P : List Lst) : List (List Value) := P.map fun p => [p.1]
section
variable {P : List Lst} {rest : List (List Value)} {k : Nat}
theorem vC_uk (P : List Lst) : Uk 1 (vC P) := fun c hc => by obtain ⟨x, _, rfl⟩ := List.mem_map.1 hc; rfl
theorem vC_len (P : List Lst) : (vC P).length = P.length := by simp [vC]
theorem vC_flat (P : List Lst) : (vC P).flatten = P.map Prod.fst := by
  induction P with
  | nil => rfl
  | cons p P ih => simp only [vC, List.map_cons, List.flatten_cons] at ih ⊢; rw [ih]; rfl
theorem vC_at (h : k < P.length) : (vC P ++ rest)[k]? = some [P[k].1] := by
  rw [List.getElem?_append_left (by rw [vC_len]; exact h)]; simp [vC, h]
theorem vC_set (h : k < P.length) (x : Lst) : (vC P ++ rest).set k [x.1] = vC (P.set k x) ++ rest := by
  rw [List.set_append_left _ _ (by rw [vC_len]; exact h)]; simp [vC, List.map_set]
end
section
variable {n : Sz} {E : Ent} {I : IMap} {L : LL} {H : List Res} {K : Act → World → Prop} {e : Nat} {v : Value} {q : List Nat} {x : Nat}
theorem sx_lstsnoc (h : SX n E I L (lstR e (v, q ++ [x]) :: H) K) : SX n E I L (.row v e 1 (q.length + 1) ((natC q).flatten ++ [ci (x : Int)]) :: H) K := by
  have e1 : lstR e (v, q ++ [x]) = .row v e 1 (q.length + 1) ((natC q).flatten ++ [ci (x : Int)]) := by simp [lstR, natC]
  rw [← e1]; exact h
end
/-- an index more, in a part that is there, or in a new one -/
def addQ (Q : List (List Nat)) (o : Option Nat) (i : Nat) : List (List Nat) := match o with | some k => Q.set k (Q.getD k [] ++ [i]) | none => Q ++ [[i]]
/-- the map of the places, then -/
def addK (kvs : List (Int × Value)) (o : Option Nat) (r : Int) (n : Nat) : List (Int × Value) := match o with | some _ => kvs | none => mput kvs r (.int .i64 (n : Int))
/-- where the parts of roots are -/
def plcN (R : Nat → Nat) (i r : Nat) : Option Nat := if r ∈ rootsN R i then some ((rootsN R i).findIdx fun x => decide (x = r)) else none
section
variable {R : Nat → Nat} {i k r : Nat}
theorem plc_some (h : plcN R i r = some k) : ∃ hk : k < (rootsN R i).length, (rootsN R i)[k] = r := by
  unfold plcN at h
  split at h
  · rename_i hm
    obtain rfl := Option.some.inj h
    have hk : (rootsN R i).findIdx (fun x => decide (x = r)) < (rootsN R i).length := List.findIdx_lt_length_of_exists ⟨r, hm, by simp⟩
    refine ⟨hk, ?_⟩
    have := List.findIdx_getElem (w := hk)
    simpa using this
  · cases h
theorem comps_add (hR : ∀ i, R i ≤ i) (hI : ∀ i, R (R i) = R i) : compsN R (i + 1) = addQ (compsN R i) (plcN R i (R i)) i := by
  cases hp : plcN R i (R i) with
  | none =>
    have hn : R i = i := by
      unfold plcN at hp
      split at hp
      · cases hp
      · rename_i hm
        have := hR i
        rcases Nat.lt_or_ge (R i) i with h | h
        · exact absurd (mem_roots.2 ⟨h, hI i⟩) hm
        · omega
    rw [comps_new hR hn]; rfl
  | some k =>
    obtain ⟨hk, h1⟩ := plc_some hp
    rw [comps_old hk h1]
    have hk2 : k < (compsN R i).length := by rw [comps_len]; exact hk
    simp only [addQ]
    congr 2
    simp [List.getD, hk2]
theorem plc_len (h : plcN R i r = some k) : k < (compsN R i).length := by
  obtain ⟨hk, _⟩ := plc_some h; rw [comps_len]; exact hk
theorem findIdx_snoc {l : List Nat} {x r : Nat} (h : r ∈ l) : (l ++ [x]).findIdx (fun y => decide (y = r)) = l.findIdx fun y => decide (y = r) := by
  rw [List.findIdx_append, if_pos (List.findIdx_lt_length_of_exists ⟨r, h, by simp⟩)]
theorem plc_step (hR : ∀ i, R i ≤ i) (hI : ∀ i, R (R i) = R i) (r : Nat) : plcN R (i + 1) r = match plcN R i (R i) with | some _ => plcN R i r | none => if R i = r then some (compsN R i).length else plcN R i r := by
  cases hp : plcN R i (R i) with
  | some k =>
    obtain ⟨hk, h1⟩ := plc_some hp
    have hlt : R i < i := by have := (mem_roots.1 (List.getElem_mem hk)).1; omega
    have e : rootsN R (i + 1) = rootsN R i := by rw [roots_succ, if_neg (by omega)]
    simp only [plcN, e]
  | none =>
    have hn : R i = i := by
      unfold plcN at hp
      split at hp
      · cases hp
      · rename_i hm
        have := hR i
        rcases Nat.lt_or_ge (R i) i with h | h
        · exact absurd (mem_roots.2 ⟨h, hI i⟩) hm
        · omega
    have e : rootsN R (i + 1) = rootsN R i ++ [i] := by rw [roots_succ, if_pos hn]
    have hni : i ∉ rootsN R i := fun h => by have := (mem_roots.1 h).1; omega
    simp only
    by_cases h1 : R i = r
    · rw [if_pos h1]
      have hr : r = i := by omega
      subst hr
      unfold plcN
      rw [e, if_pos (by simp), comps_len, List.findIdx_append, if_neg]
      · simp
      · intro h
        have h2 := List.findIdx_getElem (w := h)
        have h3 : (rootsN R r)[List.findIdx (fun x => decide (x = r)) (rootsN R r)] = r := by simpa using h2
        have h4 := List.getElem_mem h
        rw [h3] at h4
        exact hni h4
    · rw [if_neg h1]
      unfold plcN
      rw [e]
      by_cases h2 : r ∈ rootsN R i
      · rw [if_pos (List.mem_append_left _ h2), if_pos h2, findIdx_snoc h2]
      · rw [if_neg h2, if_neg]
        intro h3
        rcases List.mem_append.1 h3 with h3 | h3
        · exact h2 h3
        · rw [List.mem_singleton] at h3; omega
end
theorem plc_put {R : Nat → Nat} {i : Nat} {kvs : List (Int × Value)} (hR : ∀ i, R i ≤ i) (hI : ∀ i, R (R i) = R i) (h : ∀ r : Nat, mget kvs (r : Int) = (plcN R i r).map fun (k : Nat) => Value.int .i64 (k : Int)) (r : Nat) :
    mget (addK kvs (plcN R i (R i)) (R i : Nat) (compsN R i).length) (r : Int) = (plcN R (i + 1) r).map fun (k : Nat) => Value.int .i64 (k : Int) := by
  rw [plc_step hR hI]
  cases hp : plcN R i (R i) with
  | some k => exact h r
  | none =>
    simp only [addK]
    rw [mget_mput, h r]
    by_cases h1 : R i = r
    · rw [if_pos (by rw [h1]), if_pos h1]; rfl
    · rw [if_neg (by omega), if_neg h1]
theorem comps_bound {R : Nat → Nat} {i : Nat} : (compsN R i).length ≤ i ∧ ∀ q ∈ compsN R i, q.length ≤ i := by
  refine ⟨?_, fun q hq => ?_⟩
  · rw [comps_len]; unfold rootsN
    exact Nat.le_trans (List.length_filter_le _ _) (by simp)
  · obtain ⟨r, _, rfl⟩ := List.mem_map.1 hq
    unfold membN
    exact Nat.le_trans (List.length_filter_le _ _) (by simp)
theorem map_put {kvs : List (ByteArray × Value)} {fm : ByteArray → Option Nat} (hM : ∀ z, mget kvs z = (fm z).map fun (q : Nat) => Value.int .i64 (q : Int)) (k : ByteArray) (i : Nat) : ∀ z, mget (mput kvs k (.int .i64 (i : Int))) z = (if k = z then some i else fm z).map fun (q : Nat) => Value.int .i64 (q : Int) := fun z => by
  rw [mget_mput, hM z]; split <;> rfl
/-- steps of linking -/
theorem lkd_next {a : Prop} {k i j : Nat} {z : ByteArray} {ns : List ByteArray} (hj : j < ns.length) (h : a ∨ (k = i ∧ z ∈ ns.take (j + 1))) : (a ∨ (k = i ∧ z ∈ ns.take j)) ∨ (k = i ∧ z = ns[j]) := by
  rcases h with h | ⟨h1, h2⟩
  · exact .inl (.inl h)
  · rw [← take_succ_of hj] at h2
    rcases List.mem_append.1 h2 with h2 | h2
    · exact .inl (.inr ⟨h1, h2⟩)
    · exact .inr ⟨h1, List.mem_singleton.1 h2⟩
theorem lkd_row {l : List Rep} {i k : Nat} {z : ByteArray} {ns : List ByteArray} (hi : i < l.length) (hn : NamesOf l[i] ns) (h : k < i + 1 ∧ ∃ h : k < l.length, nm l[k] z) : (k < i ∧ ∃ h : k < l.length, nm l[k] z) ∨ (k = i ∧ z ∈ ns) := by
  obtain ⟨h1, h2, h3⟩ := h
  rcases Nat.lt_or_ge k i with h4 | h4
  · exact .inl ⟨h4, h2, h3⟩
  · obtain rfl : k = i := by omega
    exact .inr ⟨rfl, (nm_of hn z).2 h3⟩
end Go.Sx

/- Histories of all reports are those of the components, put together. -/
set_option linter.all false
namespace Go.Sx
open Go
/-- the elements at some indices -/
def pickN {α : Type} (l : List α) (C : List Nat) : List α := C.filterMap fun i => l[i]?
section
variable {α : Type} {l : List α} {C : List Nat}
theorem pickN_cons {i : Nat} (h : i < l.length) (C : List Nat) : pickN l (i :: C) = l[i] :: pickN l C := by
  simp [pickN, List.filterMap_cons, h]
theorem pickN_len (h : ∀ i ∈ C, i < l.length) : (pickN l C).length = C.length := by
  induction C with
  | nil => rfl
  | cons i C ih => rw [pickN_cons (h i (by simp))]; simp [ih fun k hk => h k (by simp [hk])]
theorem pickN_at (h : ∀ i ∈ C, i < l.length) {k : Nat} (hk : k < C.length) : (pickN l C)[k]? = some (l[C[k]]'(h _ (List.getElem_mem hk))) := by
  induction C generalizing k with
  | nil => simp at hk
  | cons i C ih =>
    rw [pickN_cons (h i (by simp))]
    cases k with
    | zero => simp
    | succ k => simpa using ih (fun k hk => h k (by simp [hk])) (by simpa using hk)
theorem pickN_get (h : ∀ i ∈ C, i < l.length) {k : Nat} (hk : k < C.length) (h2 : k < (pickN l C).length) : (pickN l C)[k] = l[C[k]]'(h _ (List.getElem_mem hk)) := by
  have := pickN_at h hk
  rw [List.getElem?_eq_getElem h2] at this
  exact Option.some.inj this
theorem pickN_mem {x : α} (h : x ∈ pickN l C) : x ∈ l := by
  obtain ⟨i, _, hi⟩ := List.mem_filterMap.1 h
  exact List.mem_of_getElem? hi
theorem pickN_append (A B : List Nat) : pickN l (A ++ B) = pickN l A ++ pickN l B := by simp [pickN]
theorem pickN_range (l : List α) : pickN l (List.range l.length) = l := by
  refine List.ext_getElem ?_ fun k h1 h2 => ?_
  · rw [pickN_len (fun i hi => List.mem_range.1 hi), List.length_range]
  · rw [pickN_get (fun i hi => List.mem_range.1 hi) (by simpa using h2)]; simp
end
/-- the event that an index picks -/
def gE (d : Int) (l : List Rep) (t : List Int) (i : Nat) : Option Evt := (at2 (optAt d) l t i).join
theorem pickE_pick {d : Int} {l : List Rep} {t : List Int} {C : List Nat} (hl : t.length = l.length) (h : ∀ i ∈ C, i < l.length) : pickE d (pickN l C) (pickN t C) = C.filterMap (gE d l t) := by
  induction C with
  | nil => rfl
  | cons i C ih =>
    have hi := h i (by simp)
    rw [pickN_cons hi, pickN_cons (by omega), pickE, List.zip_cons_cons, List.filterMap_cons, List.filterMap_cons, gE, at2_eq hi (by omega)]
    have := ih fun k hk => h k (by simp [hk])
    rw [pickE] at this
    simp only [Option.join_some]
    rw [this]
theorem pickE_range {d : Int} {l : List Rep} {t : List Int} (hl : t.length = l.length) : pickE d l t = (List.range l.length).filterMap (gE d l t) := by
  have := pickE_pick (d := d) (l := l) (t := t) (C := List.range l.length) hl fun i hi => List.mem_range.1 hi
  rw [pickN_range] at this
  conv at this => lhs; arg 3; rw [← hl, pickN_range]
  exact this
/-- whether events are possible -/
def okE (c : List Kind) (E : List Evt) : Bool := (runsTo c [] (sortF E)).isSome
theorem ok_split {c : List Kind} {D : ByteArray → Bool} {E : List Evt} (hv : validC c = true) (hl : E.length < 20000) (hE : ∀ e ∈ E, Dev D e ∨ Dev (fun n => !D n) e) : okE c E = (okE c (E.filter fun e => D e.part) && okE c (E.filter fun e => !D e.part)) := by
  have hc := vs_nil hv
  have hlen : (sortF E).length < 20000 := by rw [sortF_len]; exact hl
  unfold okE
  rw [runs_split (D := D) _ [] [] [] (Spl.nil _) hc hc hc (by simpa using hlen) (by simpa using hlen) (by simpa using hlen) (fun e he => hE e (sortF_mem.1 he)), sortF_filt (fun e : Evt => D e.part), sortF_filt (fun e : Evt => !D e.part)]
theorem fm_congr {α β : Type} {f g : α → Option β} : ∀ {l : List α}, (∀ x ∈ l, f x = g x) → l.filterMap f = l.filterMap g
  | [], _ => rfl
  | x :: l, h => by rw [List.filterMap_cons, List.filterMap_cons, h x (by simp), fm_congr fun y hy => h y (by simp [hy])]
theorem all_same {α : Type} {f g : α → Bool} : ∀ {l : List α}, (∀ x ∈ l, f x = g x) → l.all f = l.all g
  | [], _ => rfl
  | x :: l, h => by rw [List.all_cons, List.all_cons, h x (by simp), all_same fun y hy => h y (by simp [hy])]
theorem ok_prod {c : List Kind} (D : Nat → ByteArray → Bool) (hv : validC c = true) : ∀ (rs : List Nat) (E : List Evt), rs.Nodup → E.length < 20000 → (∀ e ∈ E, ∃ r ∈ rs, Dev (D r) e ∧ ∀ r' ∈ rs, r' ≠ r → Dev (fun n => !D r' n) e) → okE c E = rs.all fun r => okE c (E.filter fun e => D r e.part)
  | [], E, _, _, h => by
    cases E with
    | nil => rfl
    | cons e E => obtain ⟨r, hr, _⟩ := h e (by simp); cases hr
  | r :: rs, E, hn, hl, h => by
    have hn' := List.nodup_cons.1 hn
    rw [ok_split (D := D r) hv hl (fun e he => by
      obtain ⟨q, hq, h1, h2⟩ := h e he
      by_cases e1 : q = r
      · subst e1; exact .inl h1
      · exact .inr (h2 r (by simp) fun h => e1 h.symm)), List.all_cons]
    congr 1
    rw [ok_prod D hv rs _ hn'.2 (Nat.lt_of_le_of_lt (List.length_filter_le _ _) hl) fun e he => ?_]
    · refine all_same fun q hq => ?_
      rw [List.filter_filter]
      congr 1
      refine List.filter_congr fun e he => ?_
      cases hd : D q e.part with
      | false => rfl
      | true =>
        obtain ⟨q0, hq0, h1, h2⟩ := h e he
        have hne : r ≠ q0 := by
          rintro rfl
          have := (h2 q (by simp [hq]) (fun e => hn'.1 (e ▸ hq))).part
          simp [hd] at this
        have := (h2 r (by simp) hne).part
        simpa using this
    · obtain ⟨he, hd⟩ := List.mem_filter.1 he
      obtain ⟨q, hq, h1, h2⟩ := h e he
      rcases List.mem_cons.1 hq with rfl | hq'
      · have := h1.part; simp [this] at hd
      · exact ⟨q, hq', h1, fun r' hr' => h2 r' (by simp [hr'])⟩
/-- whether some report of a component mentions a name -/
def clsB (l : List Rep) (R : Nat → Nat) (r : Nat) (z : ByteArray) : Bool := (List.range l.length).any fun i => decide (R i = r) && ((l[i]?).map fun q : Rep => q.options.any fun e => decide (z ∈ mentions e)).getD false
section
variable {c : List Kind} {l : List Rep} {R : Nat → Nat} {t : List Int} {r : Nat}
theorem clsB_is {z : ByteArray} : clsB l R r z = true ↔ ∃ i, ∃ h : i < l.length, R i = r ∧ ∃ e ∈ l[i].options, z ∈ mentions e := by
  unfold clsB
  rw [List.any_eq_true]
  constructor
  · rintro ⟨i, hi, h⟩
    have hi := List.mem_range.1 hi
    rw [List.getElem?_eq_getElem hi] at h
    simp only [Bool.and_eq_true, decide_eq_true_eq, Option.map_some, Option.getD_some, List.any_eq_true] at h
    exact ⟨i, hi, h.1, h.2⟩
  · rintro ⟨i, hi, h1, h2⟩
    refine ⟨i, List.mem_range.2 hi, ?_⟩
    rw [List.getElem?_eq_getElem hi]
    simp only [Bool.and_eq_true, decide_eq_true_eq, Option.map_some, Option.getD_some, List.any_eq_true]
    exact ⟨h1, h2⟩
theorem memb_lt {n i : Nat} (h : i ∈ membN R n r) : i < n := (mem_memb.1 h).1
theorem memb_nodup {n : Nat} : (membN R n r).Nodup := List.nodup_range.filter _
theorem pick_given (hc : validC c = true) (hp : ∀ q ∈ l, chs q ≠ 0) (ht : t ∈ allCh l) {C : List Nat} (h : ∀ i ∈ C, i < l.length) : pickN t C ∈ allCh (pickN l C) := by
  obtain ⟨hl, hb⟩ := all_mem.1 ht
  have h' : ∀ i ∈ C, i < t.length := fun i hi => by rw [hl]; exact h i hi
  refine all_mem.2 ⟨by rw [pickN_len h, pickN_len h'], fun i h1 h2 => ?_⟩
  have hi : i < C.length := by rw [pickN_len h] at h1; exact h1
  rw [pickN_get h hi, pickN_get h' hi]
  exact hb _ (h _ (List.getElem_mem hi)) (h' _ (List.getElem_mem hi))
theorem pick_pos (hp : ∀ q ∈ l, chs q ≠ 0) (C : List Nat) : ∀ q ∈ pickN l C, chs q ≠ 0 := fun q hq => hp q (pickN_mem hq)
theorem valid_chs {q : Rep} (h : chs q ≠ 0) : validRep q = true := by
  cases hv : validRep q with
  | true => rfl
  | false => exact absurd (by simp [chs, hv]) h
theorem hist_prod (hR : Rts l R) (hc : validC c = true) (hp : ∀ q ∈ l, chs q ≠ 0) (hl : l.length < 20000) (ht : t ∈ allCh l) : isF c l t = (rootsN R l.length).all fun r => isF c (pickN l (membN R l.length r)) (pickN t (membN R l.length r)) := by
  obtain ⟨htl, hb⟩ := all_mem.1 ht
  rw [is_ev ((all_given hc hp t).2 ht)]
  have h1 : ∀ r ∈ rootsN R l.length, isF c (pickN l (membN R l.length r)) (pickN t (membN R l.length r)) = okE c ((membN R l.length r).filterMap (gE 40001 l t)) := fun r _ => by
    rw [is_ev ((all_given hc (pick_pos hp _) _).2 (pick_given hc hp ht fun i hi => memb_lt hi)), pickE_pick htl fun i hi => memb_lt hi]; rfl
  rw [all_same h1]
  have hg : ∀ i e, gE 40001 l t i = some e → ∃ h : i < l.length, e ∈ l[i].options := fun i e he => by
    rcases Nat.lt_or_ge i l.length with hi | hi
    · rw [gE, at2_eq hi (by omega)] at he
      exact ⟨hi, opt_some (by simpa using he)⟩
    · rw [gE, at2, List.getElem?_eq_none hi] at he; simp at he
  have hcl : ∀ i e, gE 40001 l t i = some e → ∀ z ∈ mentions e, ∀ r, clsB l R r z = decide (R i = r) := fun i e he z hz r => by
    obtain ⟨hi, hm⟩ := hg i e he
    rw [Bool.eq_iff_iff, clsB_is, decide_eq_true_eq]
    constructor
    · rintro ⟨k, hk, rfl, f, hf, h2⟩
      exact hR.share hi hk ⟨valid_chs (hp _ (List.getElem_mem hi)), e, hm, hz⟩ ⟨valid_chs (hp _ (List.getElem_mem hk)), f, hf, h2⟩
    · rintro rfl
      exact ⟨i, hi, rfl, e, hm, hz⟩
  have hpart : ∀ e : Evt, e.part ∈ mentions e := fun e => by unfold mentions; split <;> simp
  show okE c (pickE 40001 l t) = _
  rw [pickE_range htl, ok_prod (clsB l R) hc (rootsN R l.length) _ roots_nodup (Nat.lt_of_le_of_lt (List.length_filterMap_le _ _) (by simpa using hl)) fun e he => ?_]
  · refine all_same fun r _ => ?_
    congr 1
    unfold membN
    rw [List.filter_filterMap, List.filterMap_filter]
    refine fm_congr fun i _ => ?_
    cases hq : gE 40001 l t i with
    | none => simp
    | some e =>
      have := hcl i e hq e.part (hpart e) r
      simp [Option.filter_some, this]
  · obtain ⟨i, hi, he⟩ := List.mem_filterMap.1 he
    have hi := List.mem_range.1 hi
    refine ⟨R i, mem_roots.2 ⟨Nat.lt_of_le_of_lt (hR.le i) hi, hR.idem i⟩, fun z hz => by rw [hcl i e he z hz]; simp, fun r' _ hne z hz => by
      show (!clsB l R r' z) = true
      rw [hcl i e he z hz]; simpa using fun h => hne h.symm⟩
end
end Go.Sx

/- The choices that some history has: a table, marked component by component. -/
set_option linter.all false
namespace Go.Sx
open Go
/-- the place of an index in its component -/
def posN (R : Nat → Nat) (i : Nat) : Nat := (membN R i (R i)).length
section
variable {c : List Kind} {l : List Rep} {R : Nat → Nat} {t : List Int} {r i n : Nat}
theorem memb_split (h : i < n) (hr : R i = r) : ∃ z, membN R n r = membN R i r ++ i :: z := by
  have e2 : List.range n = List.range i ++ i :: (List.range (n - (i + 1))).map (i + 1 + ·) := range_split h
  unfold membN
  rw [e2, List.filter_append, List.filter_cons, if_pos (by simpa using hr)]
  exact ⟨_, rfl⟩
theorem pos_at (h : i < n) : ∃ hp : posN R i < (membN R n (R i)).length, (membN R n (R i))[posN R i] = i := by
  obtain ⟨z, hz⟩ := memb_split (R := R) h rfl
  have h1 : posN R i < (membN R n (R i)).length := by rw [hz]; simp [posN]
  refine ⟨h1, ?_⟩
  have : (membN R n (R i))[posN R i]? = some i := by rw [hz, List.getElem?_append_right (by simp [posN])]; simp [posN]
  rw [List.getElem?_eq_getElem h1] at this
  exact Option.some.inj this
theorem nodup_inj {α : Type} {l : List α} (h : l.Nodup) {a b : Nat} (ha : a < l.length) (hb : b < l.length) (e : l[a] = l[b]) : a = b := by
  rcases Nat.lt_trichotomy a b with h1 | h1 | h1
  · exact absurd e (List.pairwise_iff_getElem.1 h a b ha hb h1)
  · exact h1
  · exact absurd e.symm (List.pairwise_iff_getElem.1 h b a hb ha h1)
theorem pos_of {k : Nat} (hk : k < (membN R n r).length) : posN R (membN R n r)[k] = k ∧ R (membN R n r)[k] = r := by
  obtain ⟨x, hx⟩ : ∃ x, (membN R n r)[k] = x := ⟨_, rfl⟩
  have hm : x ∈ membN R n r := hx ▸ List.getElem_mem hk
  rw [hx]
  obtain ⟨h1, h2⟩ := mem_memb.1 hm
  subst h2
  obtain ⟨h3, h4⟩ := pos_at (R := R) h1
  exact ⟨nodup_inj (memb_nodup (R := R) (n := n) (r := R x)) h3 hk (h4.trans hx.symm), rfl⟩
theorem hist_in_all (h : t ∈ histF c l) : t ∈ allCh l := (List.mem_filter.1 h).1
theorem hist_pick (hR : Rts l R) (hc : validC c = true) (hp : ∀ q ∈ l, chs q ≠ 0) (hl : l.length < 20000) (ht : t ∈ histF c l) (hr : r ∈ rootsN R l.length) : pickN t (membN R l.length r) ∈ histF c (pickN l (membN R l.length r)) := by
  have h := (hist_mem t).1 ht
  rw [hist_prod hR hc hp hl (hist_in_all ht), List.all_eq_true] at h
  exact (hist_mem _).2 (h r hr)
/-- histories of the components, put together -/
def glueF (n : Nat) (R : Nat → Nat) (H : Nat → List Int) : List Int := (List.range n).map fun i => (H (R i)).getD (posN R i) 0
theorem glue_pick (hr : r ∈ rootsN R n) {H : Nat → List Int} (hl : (H r).length = (membN R n r).length) : pickN (glueF n R H) (membN R n r) = H r := by
  have hg : (glueF n R H).length = n := by simp [glueF]
  have hlt : ∀ i ∈ membN R n r, i < (glueF n R H).length := fun i hi => by rw [hg]; exact memb_lt hi
  refine List.ext_getElem (by rw [pickN_len hlt, hl]) fun k h1 h2 => ?_
  have hk : k < (membN R n r).length := by omega
  rw [pickN_get hlt hk]
  obtain ⟨h3, h4⟩ := pos_of hk
  simp only [glueF, List.getElem_map, List.getElem_range, h3, h4]
  simp [List.getD, h2]
theorem glue_hist (hR : Rts l R) (hc : validC c = true) (hp : ∀ q ∈ l, chs q ≠ 0) (hl : l.length < 20000) {H : Nat → List Int} (hH : ∀ r ∈ rootsN R l.length, H r ∈ histF c (pickN l (membN R l.length r))) :
    glueF l.length R H ∈ histF c l ∧ ∀ r ∈ rootsN R l.length, pickN (glueF l.length R H) (membN R l.length r) = H r := by
  have hlen : ∀ r ∈ rootsN R l.length, (H r).length = (membN R l.length r).length := fun r hr => by
    rw [(all_mem.1 (hist_in_all (hH r hr))).1, pickN_len fun i hi => memb_lt hi]
  have hpk : ∀ r ∈ rootsN R l.length, pickN (glueF l.length R H) (membN R l.length r) = H r := fun r hr => glue_pick hr (hlen r hr)
  refine ⟨?_, hpk⟩
  have hg : (glueF l.length R H).length = l.length := by simp [glueF]
  have ha : glueF l.length R H ∈ allCh l := by
    refine all_mem.2 ⟨hg, fun i h1 h2 => ?_⟩
    have hri : R i ∈ rootsN R l.length := mem_roots.2 ⟨Nat.lt_of_le_of_lt (hR.le i) h1, hR.idem i⟩
    obtain ⟨h3, h4⟩ := pos_at (R := R) h1
    have hlt : ∀ j ∈ membN R l.length (R i), j < l.length := fun j hj => memb_lt hj
    have h5 : posN R i < (pickN l (membN R l.length (R i))).length := by rw [pickN_len hlt]; exact h3
    have h6 : posN R i < (H (R i)).length := by rw [hlen _ hri]; exact h3
    have := (all_mem.1 (hist_in_all (hH _ hri))).2 (posN R i) h5 h6
    rw [pickN_get hlt h3] at this
    simp only [h4] at this
    simp only [glueF, List.getElem_map, List.getElem_range]
    simpa [List.getD, h6] using this
  rw [hist_mem, hist_prod hR hc hp hl ha, List.all_eq_true]
  intro r hr
  rw [hpk r hr]
  exact (hist_mem _).1 (hH r hr)
theorem hist_none_iff (hR : Rts l R) (hc : validC c = true) (hp : ∀ q ∈ l, chs q ≠ 0) (hl : l.length < 20000) : histF c l = [] ↔ ∃ r ∈ rootsN R l.length, histF c (pickN l (membN R l.length r)) = [] := by
  constructor
  · intro h
    refine Classical.byContradiction fun hn => ?_
    have hH : ∀ r ∈ rootsN R l.length, (histF c (pickN l (membN R l.length r))).headD [] ∈ histF c (pickN l (membN R l.length r)) := fun r hr => by
      cases hq : histF c (pickN l (membN R l.length r)) with
      | nil => exact absurd ⟨r, hr, hq⟩ hn
      | cons a b => simp
    have := (glue_hist hR hc hp hl (H := fun r => (histF c (pickN l (membN R l.length r))).headD []) hH).1
    rw [h] at this; cases this
  · rintro ⟨r, hr, h⟩
    cases hq : histF c l with
    | nil => rfl
    | cons a b =>
      have := hist_pick hR hc hp hl (t := a) (by rw [hq]; simp) hr
      rw [h] at this; cases this
/-! tables -/
/-- a table with a row for each report -/
def Tab (l : List Rep) (M : Nat → Int → Bool) : List (List Bool) := l.mapIdx fun i q => (List.range (chs q).toNat).map fun (k : Nat) => M i (k : Int)
theorem tab_len (l : List Rep) (M : Nat → Int → Bool) : (Tab l M).length = l.length := by simp [Tab]
theorem tab_at (M : Nat → Int → Bool) (hi : i < l.length) (h : i < (Tab l M).length) : (Tab l M)[i] = (List.range (chs l[i]).toNat).map fun (k : Nat) => M i (k : Int) := by simp [Tab]
theorem tab_congr {M M' : Nat → Int → Bool} (h : ∀ i, ∀ (hi : i < l.length) (k : Int), 0 ≤ k → k < chs l[i] → M i k = M' i k) : Tab l M = Tab l M' := by
  refine List.ext_getElem (by simp [tab_len]) fun i h1 h2 => ?_
  have hi : i < l.length := by rw [tab_len] at h1; exact h1
  rw [tab_at M hi, tab_at M' hi]
  refine List.map_congr_left fun k hk => ?_
  have := List.mem_range.1 hk
  exact h i hi k (by omega) (by omega)
/-- one more that is marked -/
def mark1 (M : Nat → Int → Bool) (i : Nat) (k : Int) : Nat → Int → Bool := fun i' k' => M i' k' || (decide (i' = i) && decide (k' = k))
theorem tab_mark {M : Nat → Int → Bool} {k : Int} (hi : i < l.length) (h0 : 0 ≤ k) (h1 : k < chs l[i]) (h : i < (Tab l M).length) : (Tab l M).set i ((Tab l M)[i].set k.toNat true) = Tab l (mark1 M i k) := by
  refine List.ext_getElem (by simp [tab_len]) fun j h2 h3 => ?_
  have hj : j < l.length := by rw [tab_len] at h3; exact h3
  rw [tab_at _ hj, List.getElem_set]
  split
  · rename_i e; subst e
    refine List.ext_getElem (by simp [tab_at M hi]) fun q h4 h5 => ?_
    rw [List.getElem_set]
    simp only [tab_at M hi, List.getElem_map, List.getElem_range, mark1]
    by_cases e : k.toNat = q
    · have : (q : Int) = k := by omega
      simp [e, this]
    · have : ¬ (q : Int) = k := by omega
      simp [e, this]
  · rename_i e
    rw [tab_at _ hj]
    refine List.map_congr_left fun q _ => ?_
    have : ¬ j = i := fun h => e h.symm
    simp [mark1, this]
/-- the choices of a history of a component are marked -/
def markM (M : Nat → Int → Bool) (C : List Nat) (h : List Int) : Nat → Int → Bool := fun i k => M i k || (C.zip h).any fun p => decide (i = p.1) && decide (k = p.2)
theorem markM_nil (M : Nat → Int → Bool) (C : List Nat) (h : List Int) : markM M (C.take 0) (h.take 0) = M := by funext i k; simp [markM]
theorem markM_succ {M : Nat → Int → Bool} {C : List Nat} {h : List Int} {k : Nat} (h1 : k < C.length) (h2 : k < h.length) : markM M (C.take (k + 1)) (h.take (k + 1)) = mark1 (markM M (C.take k) (h.take k)) C[k] h[k] := by
  funext i q
  have e : (C.take (k + 1)).zip (h.take (k + 1)) = (C.take k).zip (h.take k) ++ [(C[k], h[k])] := by
    rw [← take_succ_of h1, ← take_succ_of h2, List.zip_append (by simp; omega)]; rfl
  simp [markM, mark1, e, Bool.or_assoc]
def markA (M : Nat → Int → Bool) (C : List Nat) (Hs : List (List Int)) : Nat → Int → Bool := fun i k => M i k || Hs.any fun h => (C.zip h).any fun p => decide (i = p.1) && decide (k = p.2)
theorem markA_nil (M : Nat → Int → Bool) (C : List Nat) (Hs : List (List Int)) : markA M C (Hs.take 0) = M := by funext i k; simp [markA]
theorem markA_succ {M : Nat → Int → Bool} {C : List Nat} {Hs : List (List Int)} {k : Nat} (h : k < Hs.length) : markA M C (Hs.take (k + 1)) = markM (markA M C (Hs.take k)) C Hs[k] := by
  funext i q
  rw [← take_succ_of h]
  simp only [markA, markM, List.any_append, List.any_cons, List.any_nil, Bool.or_false, Bool.or_assoc]
/-- all components of some roots -/
def markR (c : List Kind) (l : List Rep) (R : Nat → Nat) (rs : List Nat) : Nat → Int → Bool := fun i k => rs.any fun r => (histF c (pickN l (membN R l.length r))).any fun h => ((membN R l.length r).zip h).any fun p => decide (i = p.1) && decide (k = p.2)
theorem markR_nil : markR c l R ((rootsN R l.length).take 0) = fun _ _ => false := by funext i k; simp [markR]
theorem markR_succ {k : Nat} (h : k < (rootsN R l.length).length) : markR c l R ((rootsN R l.length).take (k + 1)) = markA (markR c l R ((rootsN R l.length).take k)) (membN R l.length (rootsN R l.length)[k]) (histF c (pickN l (membN R l.length (rootsN R l.length)[k]))) := by
  funext i q
  rw [← take_succ_of h]
  simp only [markR, markA, List.any_append, List.any_cons, List.any_nil, Bool.or_false]
/-- which choices some history has -/
def hasF (c : List Kind) (l : List Rep) : Nat → Int → Bool := fun i k => (histF c l).any fun t => decide (t.getD i 0 = k)
theorem zip_at {C : List Nat} {h : List Int} {i : Nat} {k : Int} : ((C.zip h).any fun p => decide (i = p.1) && decide (k = p.2)) = true ↔ ∃ j, ∃ (h1 : j < C.length) (h2 : j < h.length), C[j] = i ∧ h[j] = k := by
  rw [List.any_eq_true]
  constructor
  · rintro ⟨p, hp, h1⟩
    obtain ⟨j, hj, rfl⟩ := List.getElem_of_mem hp
    simp only [List.getElem_zip, Bool.and_eq_true, decide_eq_true_eq] at h1
    have hj' : j < C.length ∧ j < h.length := by simp at hj; omega
    exact ⟨j, hj'.1, hj'.2, h1.1.symm, h1.2.symm⟩
  · rintro ⟨j, h1, h2, rfl, rfl⟩
    exact ⟨(C[j], h[j]), by
      have : j < (C.zip h).length := by simp; omega
      have e := List.getElem_mem this
      rwa [List.getElem_zip] at e, by simp⟩
theorem mark_has (hR : Rts l R) (hc : validC c = true) (hp : ∀ q ∈ l, chs q ≠ 0) (hl : l.length < 20000) (hn : histF c l ≠ []) (hi : i < l.length) (k : Int) : markR c l R (rootsN R l.length) i k = hasF c l i k := by
  rw [Bool.eq_iff_iff]
  unfold markR hasF
  rw [List.any_eq_true, List.any_eq_true]
  constructor
  · rintro ⟨r, hr, h1⟩
    obtain ⟨h, hh, h2⟩ := List.any_eq_true.1 h1
    obtain ⟨j, h3, h4, h5, h6⟩ := zip_at.1 h2
    have hH : ∀ q ∈ rootsN R l.length, (if q = r then h else (histF c (pickN l (membN R l.length q))).headD []) ∈ histF c (pickN l (membN R l.length q)) := fun q hq => by
      split
      · rename_i e; subst e; exact hh
      · cases hz : histF c (pickN l (membN R l.length q)) with
        | nil => exact absurd ((hist_none_iff hR hc hp hl).2 ⟨q, hq, hz⟩) hn
        | cons a b => simp
    obtain ⟨g1, g2⟩ := glue_hist hR hc hp hl (H := fun q => if q = r then h else (histF c (pickN l (membN R l.length q))).headD []) hH
    refine ⟨_, g1, ?_⟩
    have := g2 r hr
    simp only [if_true] at this
    have hlen : (glueF l.length R fun q => if q = r then h else (histF c (pickN l (membN R l.length q))).headD []).length = l.length := by simp [glueF]
    have hlt : ∀ i ∈ membN R l.length r, i < (glueF l.length R fun q => if q = r then h else (histF c (pickN l (membN R l.length q))).headD []).length := fun i hi => by rw [hlen]; exact memb_lt hi
    have h7 := pickN_at hlt h3
    rw [this, List.getElem?_eq_getElem h4] at h7
    have h8 := Option.some.inj h7
    rw [h6] at h8
    simp only [h5] at h8
    rw [decide_eq_true_eq, getD_at (by rw [hlen]; exact hi), ← h8]
  · rintro ⟨t, ht, h1⟩
    have h1 : t.getD i 0 = k := by simpa using h1
    have htl := (all_mem.1 (hist_in_all ht)).1
    have hri : R i ∈ rootsN R l.length := mem_roots.2 ⟨Nat.lt_of_le_of_lt (hR.le i) hi, hR.idem i⟩
    refine ⟨R i, hri, List.any_eq_true.2 ⟨_, hist_pick hR hc hp hl ht hri, zip_at.2 ?_⟩⟩
    obtain ⟨h3, h4⟩ := pos_at (R := R) hi
    have hlt : ∀ j ∈ membN R l.length (R i), j < t.length := fun j hj => by rw [htl]; exact memb_lt hj
    refine ⟨posN R i, h3, by rw [pickN_len hlt]; exact h3, h4, ?_⟩
    rw [pickN_get hlt h3]
    simp only [h4]
    rw [← h1, getD_at (by rw [htl]; exact hi)]
/-- what Choices answers -/
def choF (c : List Kind) (l : List Rep) : List (List Bool) × Int := if validC c = false then ([], 1) else if l.any (fun r => decide (chs r = 0)) = true then ([], 1) else if histF c l = [] then ([], 21) else (Tab l (hasF c l), 0)
end
end Go.Sx

/- Walks, printed by a program out of the code of the functions: each theorem is a contract of one function. -/
namespace Go.Proofs.YtoadjlmbdliceaaGreat
open Go Go.Sx
set_option linter.all false
set_option maxRecDepth 20000
set_option maxHeartbeats 4000000
instance T.elt_98 : Has (eltK Tryz.prog 98) (3, 1) := ⟨by kernel_rfl⟩
instance T.ty_103 : Has (tyK Tryz.prog 103) (false, 1) := ⟨by kernel_rfl⟩
instance T.und_103 : Has (Tryz.prog.underlying 103) (.map 3 3) := ⟨by kernel_rfl⟩
instance T.und_98 : Has (Tryz.prog.underlying 98) (.slice 3) := ⟨by kernel_rfl⟩
instance T.zero_103 : Has (zeroK Tryz.prog 103) [.map none] := ⟨by kernel_rfl⟩
theorem linkRoot (I : IMap) (g cap : Nat) (F : List Nat) (rest : List (List Value)) (hR : Uk 1 rest) (hF : Fst F) (i : Nat) (hi : i < F.length) :
    FnG Tryz.prog 73 #[.slice (some ⟨g, 0, none⟩) F.length cap, .int .i64 ((i : Nat) : Int)] I (.blk g 3 (natC F ++ rest).flatten) (fun u J r => ∃ G, u = .int .i64 ((rt F i : Nat) : Int) ∧ r = .blk g 3 (natC G ++ rest).flatten ∧ G.length = F.length ∧ Fst G ∧ ∀ q, rt G q = rt F q) := by
 refine enter Tryz.func73 Tryz.call73 rfl Tryz.ntmps73 rfl (fun w0 => ?_)
 refine go 7 ?_
 refine c_loop2 (i) (F) (fun j G => I)
  (fun j G => [(0, .slice (some ⟨g, 0, none⟩) F.length cap), (1, .int .i64 ((j : Nat) : Int))])
  (fun j G => [.blk g 3 (natC G ++ rest).flatten])
  (fun j G => j < F.length ∧ G.length = F.length ∧ Fst G ∧ (∀ q, rt G q = rt F q) ∧ rt F j = rt F i)
  (fun j G => j) ⟨hi, rfl, hF, fun _ => rfl, rfl⟩ rfl sb rfl ?_
 intro j G ⟨hj, hG, hFG, hr, hje0⟩
 have hjG : j < G.length := by omega
 have hup : up G j = G[j] := up_at hjG
 have hle : G[j] ≤ j := by rw [← hup]; exact hFG j
 have hgG : G[j] < G.length := by omega
 have hup2 : up G (up G j) = G[G[j]] := by rw [hup]; exact up_at hgG
 have hle2 : G[G[j]] ≤ G[j] := by have := hFG G[j]; rw [up_at hgG] at this; exact this
 refine go 5 ?_
 refine o_v rfl (v_idx he rfl rfl rfl (j) (by omega) (by omega)) ?_
 refine o_v rfl (v_lds m0 (Uk.append (natC_uk _) hR) he rfl (j) (by omega) (natC_at hjG)) ?_
 refine go 4 ?_
 refine cb rfl (fun h10 p10 => ?_) (fun h10 p10 => ?_)
 ·have hjne : G[j] < j := by omega
  refine go 10 ?_
  refine o_v rfl (v_idx he rfl rfl rfl (j) (by omega) (by omega)) ?_
  refine o_v rfl (v_lds m0 (Uk.append (natC_uk _) hR) he rfl (j) (by omega) (natC_at hjG)) ?_
  refine o_v rfl (v_idx he rfl rfl rfl (G[j]) (by omega) (by omega)) ?_
  refine o_v rfl (v_lds m0 (Uk.append (natC_uk _) hR) he rfl (G[j]) (by omega) (natC_at hgG)) ?_
  refine o_v rfl (v_idx he rfl rfl rfl (j) (by omega) (by omega)) ?_
  refine go 1 ?_
  refine o_stc _ (j) (Uk.append (natC_uk _) hR) he rfl rfl rfl rfl rfl (by omega) (by rw [List.length_append, natC_len]; omega) ?_
  refine sx_blkeq (natC (G.set j G[G[j]]) ++ rest).flatten (by rw [natC_set hjG]) ?_
  refine go 5 ?_
  refine o_v rfl (v_idx he rfl rfl rfl (j) (by omega) (by omega)) ?_
  refine o_v rfl (OV.cast (u := .int .i64 ((G[G[j]] : Nat) : Int)) (v_lds m0 (Uk.append (natC_uk _) hR) he rfl (j) (by omega) (natC_at (by simp; omega))) (congrArg (Value.int .i64) (by simp))) ?_
  refine go 4 ?_
  exact q_next2 (G[G[j]]) (G.set j G[G[j]]) ⟨by omega, by simp [hG], hup2 ▸ (hFG.half hjG).1, fun q => by rw [← hup2, (hFG.half hjG).2 q, hr q], by rw [← hje0, ← hr, ← hr j, ← hup2, hFG.rt_up, hFG.rt_up]⟩ (by omega) rfl sb rfl
 ·have hje : rt F i = j := by rw [← hje0, ← hr j]; exact rt_stop (by omega)
  refine go 12 ?_
  refine fin1 rfl rfl ?_
  exact q_g ⟨G, by rw [hje], rfl, hG, hFG, hr⟩

theorem linkJoin (I : IMap) (g cap : Nat) (F : List Nat) (rest : List (List Value)) (hR : Uk 1 rest) (hF : Fst F) (a b : Nat) (ha : a < F.length) (hb : b < F.length) :
    FnG Tryz.prog 100 #[.slice (some ⟨g, 0, none⟩) F.length cap, .int .i64 ((a : Nat) : Int), .int .i64 ((b : Nat) : Int)] I (.blk g 3 (natC F ++ rest).flatten) (fun u J r => ∃ G, u = .tuple #[] ∧ r = .blk g 3 (natC G ++ rest).flatten ∧ G.length = F.length ∧ Fst G ∧ ∀ q, rt G q = if rt F q = rt F a ∨ rt F q = rt F b then min (rt F a) (rt F b) else rt F q) := by
 refine enter Tryz.func100 Tryz.call100 rfl Tryz.ntmps100 rfl (fun w0 => ?_)
 refine go 5 ?_
 refine o_callG (linkRoot _ g cap F rest hR hF a ha) rfl rfl (fun v10 I10 s10 j10 q10 => ?_)
 obtain ⟨G, rfl, rfl, hG, hFG, hr⟩ := q10
 refine go 3 ?_
 refine o_callG (hG ▸ linkRoot _ g cap G rest hR hFG b (by omega)) rfl rfl (fun v13 I13 s13 j13 q13 => ?_)
 obtain ⟨G2, rfl, rfl, hG2, hFG2, hr2⟩ := q13
 have hra := rt_le F a
 have hrb := rt_le F b
 rw [hr b]
 have hmx : max (rt F a) (rt F b) < G2.length := by omega
 refine go 8 ?_
 refine o_v rfl (OV.cast (u := .int .i64 ((max (rt F a) (rt F b) : Nat) : Int)) (v_max rfl rfl) (congrArg (Value.int .i64) (by split <;> omega))) ?_
 refine go 2 ?_
 refine o_v rfl (OV.cast (u := .int .i64 ((min (rt F a) (rt F b) : Nat) : Int)) (v_min rfl rfl) (congrArg (Value.int .i64) (by split <;> omega))) ?_
 refine o_v rfl (v_idx he rfl rfl rfl (max (rt F a) (rt F b)) (by omega) (by omega)) ?_
 refine go 1 ?_
 refine o_stc _ (max (rt F a) (rt F b)) (Uk.append (natC_uk _) hR) he rfl rfl rfl rfl rfl (by omega) (by rw [List.length_append, natC_len]; omega) ?_
 refine sx_blkeq (natC (G2.set (max (rt F a) (rt F b)) (min (rt F a) (rt F b))) ++ rest).flatten (by rw [natC_set hmx]) ?_
 refine go 1 ?_
 refine end0 rfl ?_
 have hid : ∀ q, rt G2 q = rt F q := fun q => (hr2 q).trans (hr q)
 obtain ⟨m1, m2⟩ := hFG2.meet (a := rt F a) (b := rt F b) (by rw [hid, rt_idem]) (by rw [hid, rt_idem]) (by omega) (by omega)
 exact q_g ⟨_, rfl, rfl, by simp; omega, m1, fun q => by rw [m2 q, hid q]⟩

theorem linkLinked (I : IMap) (v : Value) (l : List Rep) (hv : RdS I v l) (hl : l.length ≤ 1000000) (hsl : ∀ r ∈ l, ∀ e ∈ r.options, SmE e)  :
    FnH Tryz.prog 72 #[v] I [] (fun u J H2 => ∃ w m F kvs fm, u = .tuple #[w, .map (some m)] ∧ H2 = [.row w 3 1 F.length (natC F).flatten, .mp m (emap Value.string kvs)] ∧ Lkd l l.length (fun k z => ∃ h : k < l.length, nm l[k] z) F fm ∧ (∀ z, mget kvs z = (fm z).map fun (q : Nat) => Value.int .i64 (q : Int))) := by
 have hv0 := hv
 obtain ⟨A, c0, rfl, hA, hc, hm⟩ := hv
 refine enter Tryz.func72 Tryz.call72 rfl Tryz.ntmps72 rfl (fun w0 => ?_)
 refine go 8 ?_
 refine sx_nilrow 3 1 ?_
 refine go 6 ?_
 refine o_map0 (Value.string) he rfl (fun r11 => ?_)
 refine go 12 ?_
 refine bring1 ?_
 refine c_loop6 ((0 : Nat)) (_) ([]) ([]) ((fun _ => none)) (I) (fun i v4 F kvs fm J => J)
  (fun i v4 F kvs fm J => [(0, .slice A l.length c0), (5, .map (some r11)), (13, .int .i64 ((l.length : Nat) : Int)), (14, .int .i64 ((i : Nat) : Int)), (4, v4)])
  (fun i v4 F kvs fm J => [.row v4 3 1 F.length (natC F).flatten, .mp r11 (emap Value.string kvs)])
  (fun i v4 F kvs fm J => i ≤ l.length ∧ ILe I J ∧ Lkd l i (fun k z => k < i ∧ ∃ h : k < l.length, nm l[k] z) F fm ∧ (∀ z, mget kvs z = (fm z).map fun (q : Nat) => Value.int .i64 (q : Int)))
  (fun i v4 F kvs fm J => l.length - i) ⟨Nat.zero_le _, ILe.refl _, Lkd.start.congr (fun k z h => absurd h.1 (Nat.not_lt_zero k)), fun z => rfl⟩ rfl sb rfl ?_
 intro i v4 F kvs fm J ⟨hi, hJ, hK, hM⟩
 have hlF := hK.len
 have hv0 := hv0.le hJ
 have hA := hA.le hJ
 refine go 6 ?_
 refine cb rfl (fun h15 p15 => ?_) (fun h15 p15 => ?_)
 ·have hlt : i < l.length := by omega
  refine go 15 ?_
  refine o_buildSlice he he rfl rfl rfl rfl rfl rfl rfl (fun v19 => ?_)
  refine go 1 ?_
  refine bring1 ?_
  refine o_appendO he he rfl rfl rfl rfl rfl (by omega) (by omega) rfl (fun v20 => ?_)
  refine go 5 ?_
  refine sx_roweq (ys := (natC (F ++ [i])).flatten) (show _ = _ from natC_snoc F i) ?_
  refine sx_row (natC_uk (F ++ [i])) (by simp [natC_len]) (fun h0 _ => by omega) (fun g21 cap21 rest21 hv21 hR21 hcap21 hmax21 => ?_)
  subst hv21
  refine go 2 ?_
  obtain ⟨b23, o23, w23, e23, c23, r23⟩ := RdA.at_ hA (i := i) (by omega)
  obtain ⟨q23, rfl, S23, d23, rfl, hS23, hd23, hm23⟩ := r23
  refine o_v rfl (v_idx he rfl rfl e23 (i) (by omega) (by omega)) ?_
  refine o_v rfl (v_ldIa he rfl c23 rfl) ?_
  refine go 1 ?_
  refine o_call (repNames _ l[i] S23 d23 ⟨_, _, rfl, hS23, hd23, hm23⟩ (hsl _ (List.getElem_mem hlt))) rfl rfl (fun v25 I25 j25 q25 => ?_)
  try have hv0 := hv0.le j25
  try have hA := hA.le j25
  try have hNA := hNA.le j25
  obtain ⟨ns, hns, hno⟩ := q25
  obtain ⟨NA, nc, rfl, hNA, _, _⟩ := hns
  have hnl := hno.2
  refine go 5 ?_
  refine bring1 ?_
  refine sx_drop ?_
  refine c_loop5 ((0 : Nat)) ((F ++ [i])) (kvs) (fm) (_) (fun j G kvs2 fm2 J2 => J2)
   (fun j G kvs2 fm2 J2 => [(0, .slice A l.length c0), (5, .map (some r11)), (13, .int .i64 ((l.length : Nat) : Int)), (14, .int .i64 ((i : Nat) : Int)), (4, .slice (some ⟨g21, 0, none⟩) (F.length + 1) cap21), (6, .int .i64 ((i : Nat) : Int)), (25, .slice NA ns.length nc), (26, .int .i64 ((ns.length : Nat) : Int)), (27, .int .i64 ((j : Nat) : Int))])
   (fun j G kvs2 fm2 J2 => [.blk g21 3 (natC G ++ rest21).flatten, .mp r11 (emap Value.string kvs2)])
   (fun j G kvs2 fm2 J2 => j ≤ ns.length ∧ ILe I25 J2 ∧ Lkd l (i + 1) (fun k z => (k < i ∧ ∃ h : k < l.length, nm l[k] z) ∨ (k = i ∧ z ∈ ns.take j)) G fm2 ∧ (∀ z, mget kvs2 z = (fm2 z).map fun (q : Nat) => Value.int .i64 (q : Int)))
   (fun j G kvs2 fm2 J2 => ns.length - j) ⟨Nat.zero_le _, ILe.refl _, (hK.push hlt).congr (fun k z h => h.elim id fun h => by simp at h), hM⟩ rfl sb rfl ?_
  intro j G kvs2 fm2 J2 ⟨hj, hJ2, hK2, hM2⟩
  have hGl : G.length = F.length + 1 := by rw [hK2.len, hlF]
  have hG1 := hK2.len
  have hv0 := hv0.le hJ2
  have hA := hA.le hJ2
  have hNA := hNA.le hJ2
  refine go 6 ?_
  refine cb rfl (fun h28 p28 => ?_) (fun h28 p28 => ?_)
  ·have hlj : j < ns.length := by omega
   refine go 6 ?_
   obtain ⟨b29, o29, w29, e29, c29, r29⟩ := RdA.at_ hNA (i := j) (by omega)
   obtain rfl := r29
   refine o_v rfl (v_idx he rfl rfl e29 (j) (by omega) (by omega)) ?_
   refine o_v rfl (v_ldI he rfl (c29 0 _ rfl)) ?_
   refine go 7 ?_
   refine o_v rfl (v_get2 m1 (key_string he) he he (ns[j]) rfl rfl rfl rfl) ?_
   refine go 12 ?_
   refine cb rfl (fun h37 p37 => ?_) (fun h37 p37 => ?_)
   ·obtain ⟨q, hq⟩ : ∃ q, fm2 ns[j] = some q := by
      rw [hM2] at h37
      cases hq : fm2 ns[j] with
      | none => rw [hq] at h37; cases h37
      | some q => exact ⟨q, rfl⟩
    have hmg : (mget kvs2 ns[j]).getD (.int .i64 0) = .int .i64 (q : Int) := by rw [hM2, hq]; rfl
    rw [hmg]
    have hq1 := (hK2.own _ q hq).1
    refine go 5 ?_
    refine o_callG (hGl ▸ linkJoin _ g21 cap21 G rest21 hR21 hK2.fst q i (by omega) (by omega)) rfl rfl (fun v41 I41 s41 j41 q41 => ?_)
    try have hv0 := hv0.le j41
    try have hA := hA.le j41
    try have hNA := hNA.le j41
    obtain ⟨G2, rfl, rfl, hG2, hFG2, hr2⟩ := q41
    refine go 8 ?_
    exact q_next5 (j + 1) (G2) (kvs2) (fm2) (_) ⟨by omega, hJ2.trans j41, (hK2.hit (by omega) ⟨hlt, (nm_of hno _).1 (List.getElem_mem hlj)⟩ hq hFG2 (hG2.trans hGl.symm) hr2).congr fun k z h => lkd_next hlj h, hM2⟩ (by omega) rfl sb rfl
   ·have hq0 : fm2 ns[j] = none := by
      rw [hM2] at h37
      cases hq : fm2 ns[j] with
      | none => rfl
      | some q => rw [hq] at h37; cases h37
    refine go 5 ?_
    refine bring1 ?_
    refine o_mapPut (mput kvs2 ns[j] (.int .i64 (i : Int))) (key_string he) he (ns[j]) rfl rfl rfl (rfl) ?_
    refine go 8 ?_
    refine bring1 ?_
    exact q_next5 (j + 1) (G) ((mput kvs2 ns[j] (.int .i64 (i : Int)))) ((fun y => if ns[j] = y then some i else fm2 y)) (_) ⟨by omega, hJ2, (hK2.new (by omega) ⟨hlt, (nm_of hno _).1 (List.getElem_mem hlj)⟩ hq0).congr fun k z h => lkd_next hlj h, map_put hM2 ns[j] i⟩ (by omega) rfl sb rfl
  ·obtain rfl : j = ns.length := by omega
   rw [List.take_length] at hK2
   refine sx_unrow (natC_uk G) hR21 (by rw [natC_len]; omega) hcap21 hmax21 ?_
   refine go 11 ?_
   exact q_next6 (i + 1) (_) (G) (kvs2) (fm2) (_) ⟨by omega, hJ.trans (j25.trans hJ2), hK2.congr (fun k z h => lkd_row hlt hno h), hM2⟩ (by omega) rfl sb (by simp only [hGl])
 ·obtain rfl : i = l.length := by omega
  refine go 14 ?_
  refine fin2 rfl rfl rfl ?_
  exact q_post (fun _ m => m) ⟨_, _, F, kvs, fm, rfl, rfl, hK.congr (fun k z h => ⟨h.1, h⟩), hM⟩

theorem linkAdd (I : IMap) (g6 g7 m : Nat) (vo : Value) (P : List Lst) (kvs : List (Int × Value)) (o : Option Nat) (i r : Nat) (ho : mget kvs (r : Int) = o.map fun (k : Nat) => Value.int .i64 (k : Int)) (hk : ∀ k, o = some k → k < P.length) (hP : P.length ≤ 1000000) (hS : ∀ p ∈ P, p.2.length ≤ 1000000) :
    FnH Tryz.prog 74 #[.int .i64 ((i : Nat) : Int), .int .i64 ((r : Nat) : Int), .pointer (some ⟨g6, 0, none⟩), .pointer (some ⟨g7, 0, none⟩)] I (.blk g6 103 [.map (some m)] :: .mp m (emap encI kvs) :: .blk g7 32 [vo] :: .row vo 28 1 (List.length P) (List.map Prod.fst P) :: List.map (lstR 3) P) (fun u J H2 => ∃ (vo2 : Value) (P2 : List Lst) (kvs2 : List (Int × Value)), H2 = .blk g6 103 [.map (some m)] :: .mp m (emap encI kvs2) :: .blk g7 32 [vo2] :: .row vo2 28 1 (List.length P2) (List.map Prod.fst P2) :: List.map (lstR 3) P2 ∧ P2.map Prod.snd = addQ (P.map Prod.snd) o i ∧ kvs2 = (addK kvs o (r : Int) P.length)) := by
 refine enter Tryz.func74 Tryz.call74 rfl Tryz.ntmps74 rfl (fun w0 => ?_)
 refine go 2 ?_
 refine bring3 ?_
 refine sx_rowslice (fun Ao co hvo => ?_)
 subst hvo
 refine go 2 ?_
 refine o_v rfl (v_get2 m2 (key_int he) he he ((r : Int)) rfl rfl rfl rfl) ?_
 refine go 8 ?_
 refine c_cutx4 (Ix := (fun vo2 P1 kvs2 k => I)) (Lx := (fun vo2 P1 kvs2 k => [(0, .int .i64 ((i : Nat) : Int)), (6, .int .i64 ((k : Nat) : Int)), (3, .pointer (some ⟨g7, 0, none⟩))])) (Hx := (fun vo2 P1 kvs2 k => .blk g6 103 [.map (some m)] :: .mp m (emap encI kvs2) :: .blk g7 32 [vo2] :: .row vo2 28 1 (List.length P1) (List.map Prod.fst P1) :: List.map (lstR 3) P1)) (p := (fun vo2 P1 kvs2 k => k < List.length P1 ∧ List.length P1 ≤ 1000001 ∧ (∀ p ∈ P1, (p : Lst).2.length ≤ 1000000) ∧ (List.map Prod.snd P1).set k ((List.map Prod.snd P1).getD k [] ++ [i]) = addQ (P.map Prod.snd) o i ∧ kvs2 = (addK kvs o (r : Int) P.length))) ?_ ?_
 ·refine go 6 ?_
  refine cb rfl (fun h15 p15 => ?_) (fun h15 p15 => ?_)
  ·have hon : o = none := by
     cases hq : o with
     | none => rfl
     | some q => rw [ho, hq] at h15; cases h15
   refine go 13 ?_
   refine bring2 ?_
   refine o_mapPut (mput kvs (r : Int) (.int .i64 (P.length : Int))) (key_int he) he ((r : Int)) rfl rfl rfl (rfl) ?_
   refine go 5 ?_
   refine o_buildSlice he he rfl rfl rfl rfl rfl rfl rfl (fun v22 => ?_)
   refine go 1 ?_
   refine bring2 ?_
   refine o_appendO he he rfl rfl rfl rfl rfl (by omega) (by omega) rfl (fun v23 => ?_)
   refine sx_rowslice (fun A23 c23 hv23 => ?_)
   subst hv23
   refine go 1 ?_
   refine bring4 ?_
   refine o_stw _ he rfl rfl rfl rfl rfl rfl ?_
   refine go 2 ?_
   refine bring2 ?_
   refine sx_drop ?_
   refine bring1 ?_
   refine bring1 ?_
   refine bring2 ?_
   refine bring3 ?_
   refine sx_nilrow 3 1 ?_
   refine sx_join4 (f := lstR 3) (l := P) (.slice none 0 0, []) ?_
   exact q_cutx4 (_) (P ++ [(.slice none 0 0, [])]) (_) (P.length) ⟨by simp, by simp; omega, fun p hp => (List.mem_append.1 hp).elim (hS p) (fun h => by rw [List.mem_singleton.1 h]; exact Nat.zero_le _), by rw [hon]; simp [addQ], by subst hon; rfl⟩ sb (by simp only [List.length_append, List.map_append]; rfl) rfl
  ·obtain ⟨k0, hk0⟩ : ∃ k0, o = some k0 := by
     cases hq : o with
     | none => rw [ho, hq] at h15; cases h15
     | some q => exact ⟨q, rfl⟩
   have hmg : (mget kvs (r : Int)).getD (.int .i64 0) = .int .i64 (k0 : Int) := by rw [ho, hk0]; rfl
   rw [hmg]
   have hkp := hk k0 hk0
   refine go 2 ?_
   refine bring3 ?_
   refine bring3 ?_
   refine bring3 ?_
   
   exact q_cutx4 (_) (P) (kvs) (k0) ⟨hkp, by omega, hS, by rw [hk0]; rfl, by subst hk0; rfl⟩ sb rfl rfl
 ·intro vo2 P1 kvs2 k ⟨hk1, hP1, hS1, hadd, hkv⟩
  refine sx_pull4 (f := lstR 3) hk1 ?_
  refine bring4 ?_
  refine sx_roweq (ys := (vC P1).flatten) (vC_flat P1).symm ?_
  refine sx_row (vC_uk P1) (vC_len P1) (fun h0 _ => by omega) (fun g5 cap5 rest5 hv5 hR5 hc5 hl5 => ?_)
  subst hv5
  have hq1 := hS1 _ (List.getElem_mem hk1)
  refine bring1 ?_
  refine bring1 ?_
  refine d_start2 T.mixed ?_
  refine d_tv 0 rfl rfl (by kernel_rfl) rfl (.cons _ (.cons _ (.refl _))) rfl (v_ld m2 he rfl rfl) ?_
  refine d_tv 1 rfl rfl (by kernel_rfl) rfl (.cons _ (.cons _ (.refl _))) rfl (v_move rfl) ?_
  refine d_tv 2 rfl rfl (by kernel_rfl) rfl (.cons _ (.cons _ (.refl _))) rfl (v_ld m2 he rfl rfl) ?_
  refine d_tv 3 rfl rfl (by kernel_rfl) rfl (.cons _ (.cons _ (.refl _))) rfl (v_move rfl) ?_
  refine d_tv 4 rfl rfl (by kernel_rfl) rfl (.cons _ (.cons _ (.refl _))) rfl (v_idx he rfl rfl rfl (k) (by omega) (by omega)) ?_
  refine d_tv 6 rfl rfl (by kernel_rfl) rfl (.cons _ (.cons _ (.refl _))) rfl (v_move rfl) ?_
  refine d_two 5 7 (by kernel_rfl) rfl rfl ?_ ?_
  ·refine o_val rfl (v_lds m0 (Uk.append (vC_uk P1) hR5) he rfl (k) (by omega) (vC_at hk1)) ?_
   refine d_on (fun _ m => m.keeps (.cons _ (.cons _ (.refl _)))) ?_
   refine d_one 7 (by kernel_rfl) rfl ?_
   refine o_buildSlice he he rfl rfl rfl rfl rfl rfl rfl (fun v31 => ?_)
   refine d_on (fun _ m => m.keeps (.cons _ (.cons _ (.cons _ (.refl _))))) ?_
   refine d_one 8 (by kernel_rfl) rfl ?_
   refine bring2 ?_
   refine o_appendO he he rfl rfl rfl rfl rfl (by omega) (by omega) rfl (fun v32 => ?_)
   refine sx_rowslice (fun A32 c32 hv32 => ?_)
   subst hv32
   refine d_on (fun _ m => m.keeps (.cons _ (.cons _ (.cons _ (.refl _))))) ?_
   refine d_tv 9 rfl rfl (by kernel_rfl) rfl (.cons _ (.cons _ (.cons _ (.refl _)))) rfl (v_idx he rfl rfl rfl (k) (by omega) (by omega)) ?_
   refine d_one 10 (by kernel_rfl) rfl ?_
   refine bring2 ?_
   refine o_stc _ (k) (Uk.append (vC_uk P1) hR5) he rfl rfl rfl rfl rfl (by omega) (by rw [List.length_append, vC_len]; omega) ?_
   refine sx_blkeq (vC (P1.set k (.slice A32 (P1[k].2.length + 1) c32, P1[k].2 ++ [i])) ++ rest5).flatten (by rw [← vC_set hk1]) ?_
   refine d_on (fun _ m => m.keeps (.cons _ (.cons _ (.cons _ (.refl _))))) ?_
   refine d_done (by kernel_rfl) ?_
   refine end0 rfl ?_
   refine bring2 ?_
   refine sx_drop ?_
   refine sx_unrow (vC_uk _) hR5 (by rw [vC_len, List.length_set]) hc5 hl5 ?_
   refine sx_roweq (ys := (P1.set k (.slice A32 (P1[k].2.length + 1) c32, P1[k].2 ++ [i])).map Prod.fst) (vC_flat _) ?_
   refine bring1 ?_
   refine sx_lstsnoc ?_
   refine sx_push4 (f := lstR 3) (l := P1) (.slice A32 (P1[k].2.length + 1) c32, P1[k].2 ++ [i]) hk1 ?_
   refine bring3 ?_
   refine bring3 ?_
   refine bring3 ?_
   refine q_post (fun _ m => m) ⟨_, P1.set k (.slice A32 (P1[k].2.length + 1) c32, P1[k].2 ++ [i]), kvs2, by rw [List.length_set], ?_, hkv⟩
   rw [← hadd, List.map_set]
   simp [List.getD, hk1]
  ·refine o_buildSlice he he rfl rfl rfl rfl rfl rfl rfl (fun v31 => ?_)
   refine d_on (fun _ m => m.keeps (.cons _ (.cons _ (.cons _ (.refl _))))) ?_
   refine d_one 5 (by kernel_rfl) rfl ?_
   refine o_val rfl (v_lds m1 (Uk.append (vC_uk P1) hR5) he rfl (k) (by omega) (vC_at hk1)) ?_
   refine d_on (fun _ m => m.keeps (.cons _ (.cons _ (.cons _ (.refl _))))) ?_
   refine d_one 8 (by kernel_rfl) rfl ?_
   refine bring2 ?_
   refine o_appendO he he rfl rfl rfl rfl rfl (by omega) (by omega) rfl (fun v32 => ?_)
   refine sx_rowslice (fun A32 c32 hv32 => ?_)
   subst hv32
   refine d_on (fun _ m => m.keeps (.cons _ (.cons _ (.cons _ (.refl _))))) ?_
   refine d_tv 9 rfl rfl (by kernel_rfl) rfl (.cons _ (.cons _ (.cons _ (.refl _)))) rfl (v_idx he rfl rfl rfl (k) (by omega) (by omega)) ?_
   refine d_one 10 (by kernel_rfl) rfl ?_
   refine bring2 ?_
   refine o_stc _ (k) (Uk.append (vC_uk P1) hR5) he rfl rfl rfl rfl rfl (by omega) (by rw [List.length_append, vC_len]; omega) ?_
   refine sx_blkeq (vC (P1.set k (.slice A32 (P1[k].2.length + 1) c32, P1[k].2 ++ [i])) ++ rest5).flatten (by rw [← vC_set hk1]) ?_
   refine d_on (fun _ m => m.keeps (.cons _ (.cons _ (.cons _ (.refl _))))) ?_
   refine d_done (by kernel_rfl) ?_
   refine end0 rfl ?_
   refine bring2 ?_
   refine sx_drop ?_
   refine sx_unrow (vC_uk _) hR5 (by rw [vC_len, List.length_set]) hc5 hl5 ?_
   refine sx_roweq (ys := (P1.set k (.slice A32 (P1[k].2.length + 1) c32, P1[k].2 ++ [i])).map Prod.fst) (vC_flat _) ?_
   refine bring1 ?_
   refine sx_lstsnoc ?_
   refine sx_push4 (f := lstR 3) (l := P1) (.slice A32 (P1[k].2.length + 1) c32, P1[k].2 ++ [i]) hk1 ?_
   refine bring3 ?_
   refine bring3 ?_
   refine bring3 ?_
   refine q_post (fun _ m => m) ⟨_, P1.set k (.slice A32 (P1[k].2.length + 1) c32, P1[k].2 ++ [i]), kvs2, by rw [List.length_set], ?_, hkv⟩
   rw [← hadd, List.map_set]
   simp [List.getD, hk1]

theorem linkComps (I : IMap) (v : Value) (l : List Rep) (hv : RdS I v l) (hl : l.length ≤ 1000000) (hsl : ∀ r ∈ l, ∀ e ∈ r.options, SmE e) (R : Nat → Nat) (hRt : Rts l R) :
    FnI Tryz.prog 44 #[v] I (fun u J => RdS J u ((compsN R l.length).map nI)) := by
 refine enter Tryz.func44 Tryz.call44 rfl Tryz.ntmps44 rfl (fun w0 => ?_)
 refine go 9 ?_
 refine o_callA (linkLinked _ _ l hv hl hsl) rfl rfl (fun v12 I12 H12 j12 q12 => ?_)
 obtain ⟨w, m, F, kvs0, fm, rfl, rfl, hK, hM⟩ := q12
 have hR : rt F = R := (hK.done (fun k z hk h => ⟨hk, h⟩)).uniq hRt
 have hFl := hK.len
 have hle := hRt.le
 have hid := hRt.idem
 refine go 9 ?_
 refine sx_rowslice (fun Aw cw hw => ?_)
 subst hw
 refine go 1 ?_
 refine o_v rfl (v_makeFunc rfl rfl) ?_
 refine go 6 ?_
 refine o_map0 (encI) he rfl (fun r17 => ?_)
 refine go 1 ?_
 refine o_alloc he rfl (fun g6 => ?_)
 refine go 1 ?_
 refine o_stw _ he rfl rfl rfl rfl rfl rfl ?_
 refine go 5 ?_
 refine o_alloc he rfl (fun g7 => ?_)
 refine go 4 ?_
 refine o_v rfl (v_makeFunc rfl rfl) ?_
 refine go 6 ?_
 refine sx_nilrow 28 1 ?_
 refine go 6 ?_
 refine bring5 ?_
 refine sx_drop ?_
 refine bring1 ?_
 refine bring3 ?_
 refine bring3 ?_
 refine bring4 ?_
 refine c_loop6 ((0 : Nat)) (F) (_) ([]) ([]) (_) (fun i F1 vo P kvs J => J)
  (fun i F1 vo P kvs J => [(3, .slice Aw F.length cw), (5, .func (.func 73) #[.slice Aw F.length cw] #[]), (7, .pointer (some ⟨g7, 0, none⟩)), (8, .func (.func 74) #[] #[.pointer (some ⟨g6, 0, none⟩), .pointer (some ⟨g7, 0, none⟩)]), (20, .int .i64 ((F.length : Nat) : Int)), (21, .int .i64 ((i : Nat) : Int))])
  (fun i F1 vo P kvs J => .row (.slice Aw F.length cw) 3 1 F.length (natC F1).flatten :: .blk g6 103 [.map (some r17)] :: .mp r17 (emap encI kvs) :: .blk g7 32 [vo] :: .row vo 28 1 (List.length P) (List.map Prod.fst P) :: List.map (lstR 3) P)
  (fun i F1 vo P kvs J => i ≤ F.length ∧ ILe I12 J ∧ F1.length = F.length ∧ Fst F1 ∧ (∀ q, rt F1 q = R q) ∧ List.map Prod.snd P = compsN R i ∧ ∀ r : Nat, mget kvs (r : Int) = (plcN R i r).map fun (k : Nat) => Value.int .i64 (k : Int))
  (fun i F1 vo P kvs J => F.length - i) ⟨Nat.zero_le _, ILe.refl _, rfl, hK.fst, fun q => by rw [hR], rfl, fun r => rfl⟩ rfl sb rfl ?_
 intro i F1 vo P kvs J ⟨hi, hJ, hF1l, hF1, hr1, hP, hpl⟩
 have hPl : P.length = (compsN R i).length := by rw [← hP, List.length_map]
 have hcb := comps_bound (R := R) (i := i)
 have hPs : ∀ p ∈ P, p.2.length ≤ 1000000 := fun p hp => by have := hcb.2 p.2 (by rw [← hP]; exact List.mem_map_of_mem hp); omega
 refine go 6 ?_
 refine cb rfl (fun h22 p22 => ?_) (fun h22 p22 => ?_)
 ·have hlt : i < F.length := by omega
  refine go 11 ?_
  refine sx_row (natC_uk F1) (by rw [natC_len]; exact hF1l) (fun h0 _ => by omega) (fun g9 cap9 rest9 hv9 hR9 hc9 hl9 => ?_)
  cases hv9
  refine go 5 ?_
  refine o_callG (hF1l ▸ linkRoot _ g9 cw F1 rest9 hR9 hF1 i (by omega)) rfl rfl (fun v28 I28 s28 j28 q28 => ?_)
  obtain ⟨G, rfl, rfl, hG, hFG, hr⟩ := q28
  rw [hr1 i]
  refine go 1 ?_
  refine o_callT (linkAdd _ g6 g7 r17 _ P kvs (plcN R i (R i)) i (R i) (hpl (R i)) (fun k hk => by have := plc_len hk; omega) (by omega) hPs) rfl rfl (fun v29 I29 H29 j29 q29 => ?_)
  obtain ⟨vo2, P2, kvs2, rfl, hP2, hkv⟩ := q29
  refine go 4 ?_
  refine sx_unrow (natC_uk G) hR9 (by rw [natC_len]; omega) hc9 hl9 ?_
  refine go 4 ?_
  exact q_next6 (i + 1) (G) (_) (P2) (_) (_) ⟨by omega, hJ.trans (j28.trans j29), hG, hFG, fun q => (hr q).trans (hr1 q), by rw [hP2, hP, comps_add hle hid], fun r => by rw [hkv, hPl]; exact plc_put hle hid hpl r⟩ (by omega) rfl sb rfl
 ·obtain rfl : i = F.length := by omega
  refine go 12 ?_
  refine fin1 rfl rfl ?_
  refine sx_drop ?_
  refine sx_drop ?_
  refine sx_drop ?_
  refine sx_drop ?_
  refine sx_publst1 P (fun I9 hI9 h9 => ?_)
  refine sx_pubrow (l := P.map fun p => nI p.2) rfl (by simp) (lst_flat P h9) (fun I10 j10 R10 => ?_)
  exact q_i (by rw [← hFl, ← hP, List.map_map]; exact R10)

end Go.Proofs.YtoadjlmbdliceaaGreat

/- A table of one's own; what is possible, component by component. -/
set_option linter.all false
namespace Go.Sx
open Go
/-! rows of a table, each in a block of its own -/
abbrev Row := Nat × List Bool
def bC (l : List Bool) : List Value := l.map Value.bool
abbrev tabR (e : Nat) (p : Row) : Res := .blk p.1 e (bC p.2)
def oV (p : Row) : Value := .slice (some ⟨p.1, 0, none⟩) p.2.length p.2.length
def oC (Q : List Row) : List (List Value) := Q.map fun p => [oV p]
theorem bC_len (l : List Bool) : (bC l).length = l.length := by simp [bC]
theorem bC_set (l : List Bool) (i : Nat) (x : Bool) : (bC l).set i (.bool x) = bC (l.set i x) := by simp [bC, List.map_set]
theorem bC_flat {I : IMap} (l : List Bool) : Flat I (bC l) l := by
  induction l with
  | nil => exact .nil
  | cons x l ih => exact .cons (vs := [.bool x]) rfl ih
theorem bC_rep (n : Nat) : (List.replicate n [Value.bool false]).flatten = bC (List.replicate n false) := by
  induction n with
  | zero => rfl
  | succ n ih => rw [List.replicate_succ, List.flatten_cons, ih]; rfl
section
variable {Q : List Row} {rest : List (List Value)} {k : Nat}
theorem oC_uk (Q : List Row) : Uk 1 (oC Q) := fun c hc => by obtain ⟨x, _, rfl⟩ := List.mem_map.1 hc; rfl
theorem oC_len (Q : List Row) : (oC Q).length = Q.length := by simp [oC]
theorem oC_at0 (h : k < Q.length) : (oC Q)[k]? = some [oV Q[k]] := by simp [oC, h]
theorem oC_set (h : k < Q.length) (l : List Bool) (hl : l.length = Q[k].2.length) : oC (Q.set k (Q[k].1, l)) = oC Q := by
  refine List.ext_getElem (by simp [oC_len]) fun j h1 h2 => ?_
  simp only [oC, List.getElem_map, List.getElem_set]
  split
  · rename_i e; subst e; simp [oV, hl]
  · rfl
theorem rep_uk (n : Nat) : Uk 1 (List.replicate n [Value.slice none 0 0]) := fun c hc => by rw [List.eq_of_mem_replicate hc]; rfl
theorem oC_next {n : Nat} (x : Row) (h : Q.length < n) : (oC Q ++ List.replicate (n - Q.length) [Value.slice none 0 0]).set Q.length [oV x] = oC (Q ++ [x]) ++ List.replicate (n - (Q.length + 1)) [Value.slice none 0 0] := by
  rw [List.set_append_right _ _ (by rw [oC_len]; exact Nat.le_refl _), oC_len, Nat.sub_self, show n - Q.length = (n - (Q.length + 1)) + 1 by omega, List.replicate_succ]
  simp [oC]
end
section
variable {P : Program} {n : Sz} {E : Ent} {I : IMap} {L : LL} {H : List Res} {K : Act → World → Prop} {e : Nat}
theorem bC_rds {I : IMap} {g : Nat} {l : List Bool} (h : ICells I g 0 (bC l)) (hl : l.length ≤ 9223372036854775807) : RdS I (.slice (some ⟨g, 0, none⟩) l.length l.length) l := ⟨_, _, rfl, Flat.rda (bC_flat l) h, Nat.le_refl _, hl⟩
/-- all rows become immutable -/
theorem sx_pubtab : ∀ (Q : List Row) {I : IMap}, (∀ p ∈ Q, p.2.length ≤ 9223372036854775807) → (∀ I', ILe I I' → (∀ p ∈ Q, RdS I' (oV p) p.2) → SX n E I' L H K) → SX n E I L (Q.map (tabR e) ++ H) K
  | [], I, _, h => h I (ILe.refl _) fun p hp => by cases hp
  | q :: Q, I, hl, h => by
    show SX n E I L (tabR e q :: (Q.map (tabR e) ++ H)) K
    refine sx_pub fun I1 j1 c1 => ?_
    refine sx_pubtab Q (fun p hp => hl p (by simp [hp])) fun I' hI h2 => h I' (j1.trans hI) fun p hp => ?_
    rcases List.mem_cons.1 hp with rfl | hp
    · exact (bC_rds c1 (hl _ (by simp))).le hI
    · exact h2 p hp
theorem sx_pubtab1 {r : Res} (Q : List Row) (hl : ∀ p ∈ Q, p.2.length ≤ 9223372036854775807) (h : ∀ I', ILe I I' → (∀ p ∈ Q, RdS I' (oV p) p.2) → SX n E I' L [r] K) : SX n E I L (r :: Q.map (tabR e)) K :=
  sx_perm (by simpa using (List.perm_append_comm (l₁ := [r]) (l₂ := Q.map (tabR e)))) (sx_pubtab Q hl h)
theorem oC_flat {I : IMap} : ∀ (Q : List Row), (∀ p ∈ Q, RdS I (oV p) p.2) → Flat I (oC Q).flatten (Q.map Prod.snd)
  | [], _ => .nil
  | q :: Q, h => .cons (vs := [oV q]) ⟨_, rfl, h q (by simp)⟩ (oC_flat Q fun p hp => h p (by simp [hp]))
end
/-! components, one after the other -/
section
variable {c : List Kind} {l : List Rep} {R : Nat → Nat} {i j n r : Nat}
theorem tab_next (h : i < l.length) : ((l.take (i + 1)).map fun r => List.replicate (chs r).toNat false) = ((l.take i).map fun r => List.replicate (chs r).toNat false) ++ [List.replicate (chs l[i]).toNat false] := by
  rw [← take_succ_of h, List.map_append]; rfl
theorem tab_zero : (l.map fun r => List.replicate (chs r).toNat false) = Tab l fun _ _ => false := by
  refine List.ext_getElem (by simp [tab_len]) fun i h1 h2 => ?_
  have hi : i < l.length := by simpa using h1
  rw [tab_at _ hi]
  simp [List.map_const']
theorem ways_sub : ∀ {a b : List Rep}, a.Sublist b → (∀ r ∈ b, chs r ≠ 0) → waysN a ≤ waysN b := by
  intro a b h
  induction h with
  | slnil => intro _; exact Nat.le_refl _
  | cons x h ih =>
    intro hp
    have h1 := ih fun r hr => hp r (by simp [hr])
    have h2 := hp x (by simp)
    have h3 := chs_nn x
    rw [waysN]
    exact Nat.le_trans h1 (Nat.le_mul_of_pos_left _ (by omega))
  | cons_cons x h ih =>
    intro hp
    rw [waysN, waysN]
    exact Nat.mul_le_mul_left _ (ih fun r hr => hp r (by simp [hr]))
theorem pick_sub (n r : Nat) : (pickN l (membN R l.length r)).Sublist l := by
  have : (membN R l.length r).Sublist (List.range l.length) := List.filter_sublist
  have h2 := this.filterMap fun i => l[i]?
  have h3 : (List.range l.length).filterMap (fun i => l[i]?) = l := pickN_range l
  rw [h3] at h2
  exact h2
/-- what is found in one component -/
theorem pk_all (hc : validC c = true) (hp : ∀ q ∈ l, chs q ≠ 0) (h30 : l.length ≤ 30) (hw : waysN l < 4096) (r : Nat) : (allF c (pickN l (membN R l.length r)) 4096).1 = histF c (pickN l (membN R l.length r)) ∧ (allF c (pickN l (membN R l.length r)) 4096).2 = (if histF c (pickN l (membN R l.length r)) = [] then 21 else 0) ∧ (histF c (pickN l (membN R l.length r))).length < 4096 := by
  have hs := pick_sub (l := l) (R := R) 0 r
  have he : errF c (pickN l (membN R l.length r)) = 0 := err_few0 (Nat.le_trans hs.length_le h30) hc (pick_pos hp _)
  have hn : (histF c (pickN l (membN R l.length r))).length < 4096 := Nat.lt_of_le_of_lt (Nat.le_trans (hist_len _ _) (ways_sub hs hp)) hw
  refine ⟨(all_few he (by omega)).1, ?_, hn⟩
  rw [all_code (by decide) (by decide), if_neg (show ¬ (errF c (pickN l (membN R l.length r)) ≠ 0) by simp [he])]
/-- 21 as_ soon as_ a component has no history -/
def dbtR (c : List Kind) (l : List Rep) (R : Nat → Nat) (rs : List Nat) : Int := if rs.any (fun r => decide (histF c (pickN l (membN R l.length r)) = [])) = true then 21 else 0
theorem dbtR_succ (h : j < (rootsN R l.length).length) : dbtR c l R ((rootsN R l.length).take (j + 1)) = if histF c (pickN l (membN R l.length (rootsN R l.length)[j])) = [] then 21 else dbtR c l R ((rootsN R l.length).take j) := by
  unfold dbtR
  rw [← take_succ_of h, List.any_append]
  by_cases hq : histF c (pickN l (membN R l.length (rootsN R l.length)[j])) = []
  · simp [hq]
  · simp [hq]
theorem dbtR_all (hR : Rts l R) (hc : validC c = true) (hp : ∀ q ∈ l, chs q ≠ 0) (hl : l.length < 20000) : dbtR c l R (rootsN R l.length) = if histF c l = [] then 21 else 0 := by
  unfold dbtR
  by_cases h : histF c l = []
  · obtain ⟨r, hr, hq⟩ := (hist_none_iff hR hc hp hl).1 h
    rw [if_pos h, if_pos (List.any_eq_true.2 ⟨r, hr, by simp [hq]⟩)]
  · rw [if_neg h, if_neg]
    rw [List.any_eq_true]
    rintro ⟨r, hr, hq⟩
    exact h ((hist_none_iff hR hc hp hl).2 ⟨r, hr, by simpa using hq⟩)
theorem cho_bad (h : validC c = false ∨ l.any (fun r => decide (chs r = 0)) = true) : choF c l = ([], 1) := by
  unfold choF
  rcases h with h | h
  · rw [if_pos h]
  · by_cases hc : validC c = false
    · rw [if_pos hc]
    · rw [if_neg hc, if_pos h]
theorem cho_ok (hc : validC c = true) (hp : ∀ q ∈ l, chs q ≠ 0) : choF c l = if histF c l = [] then ([], 21) else (Tab l (hasF c l), 0) := by
  unfold choF
  rw [if_neg (by rw [hc]; decide), if_neg]
  rw [List.any_eq_true]; rintro ⟨r, hr, h0⟩; exact hp r hr (by simpa using h0)
theorem comp_at (h : j < (rootsN R n).length) (h2 : j < ((compsN R n).map nI).length) : ((compsN R n).map nI)[j] = nI (membN R n (rootsN R n)[j]) := by simp [compsN]
theorem bad_any : (l.any fun r => !validRep r) = l.any fun r => decide (chs r = 0) := by
  congr 1; funext r
  cases hv : validRep r with
  | true => have := chs_pos hv; simp; omega
  | false => simp [chs, hv]
end
theorem FnV.cast {P : Program} {f : FuncId} {args : Array Value} {I : IMap} {v u : Value} (h : FnV P f args I v) (e : v = u) : FnV P f args I u := e ▸ h
section
variable {Q : List Row} {M : Nat → Int → Bool} {l : List Rep} {i n g q : Nat} {k : Int} {c : List Kind}
theorem oC_next' (hQi : Q.length = i) (h : i < n) (g q : Nat) : (oC Q ++ List.replicate (n - Q.length) [Value.slice none 0 0]).set i [.slice (some ⟨g, 0, none⟩) q q] = oC (Q ++ [(g, List.replicate q false)]) ++ List.replicate (n - (Q.length + 1)) [Value.slice none 0 0] := by
  subst hQi
  rw [← oC_next (g, List.replicate q false) h]
  simp [oV]
theorem row_len (hQ : Q.map Prod.snd = Tab l M) : Q.length = l.length := by
  have := congrArg List.length hQ
  simpa [tab_len] using this
theorem row_at (hQ : Q.map Prod.snd = Tab l M) (hi : i < l.length) (hq : i < Q.length) : Q[i].2 = (List.range (chs l[i]).toNat).map fun (k : Nat) => M i (k : Int) := by
  have h1 : i < (Q.map Prod.snd).length := by simpa using hq
  have h2 : (Q.map Prod.snd)[i] = Q[i].2 := by simp
  rw [← h2, ← tab_at M hi (by rw [tab_len]; exact hi)]
  simp only [hQ]
theorem row_mark (hQ : Q.map Prod.snd = Tab l M) (hi : i < l.length) (h0 : 0 ≤ k) (h1 : k < chs l[i]) (hq : i < Q.length) : (Q.set i (Q[i].1, Q[i].2.set k.toNat true)).map Prod.snd = Tab l (mark1 M i k) := by
  have ht : i < (Tab l M).length := by rw [tab_len]; exact hi
  rw [← tab_mark hi h0 h1 ht, List.map_set, hQ]
  congr 2
  rw [row_at hQ hi hq, tab_at M hi]
theorem pk_fit {C : List Nat} {t : List Int} (hC : ∀ i ∈ C, i < l.length) (ht : t ∈ histF c (pickN l C)) : C.length = t.length ∧ ∀ q (h1 : q < C.length) (h2 : q < t.length), ∃ h3 : C[q] < l.length, 0 ≤ t[q] ∧ t[q] < chs l[C[q]] := by
  obtain ⟨h1, h2⟩ := all_mem.1 (hist_in_all ht)
  rw [pickN_len hC] at h1
  refine ⟨h1.symm, fun q h3 h4 => ⟨hC _ (List.getElem_mem h3), ?_⟩⟩
  have := h2 q (by rw [pickN_len hC]; exact h3) h4
  rwa [pickN_get hC h3] at this
theorem pick_sm {C : List Nat} (h : ∀ r ∈ l, ∀ e ∈ r.options, SmE e) : ∀ r ∈ pickN l C, ∀ e ∈ r.options, SmE e := fun r hr => h r (pickN_mem hr)
theorem memb_le {R : Nat → Nat} {n r : Nat} : (membN R n r).length ≤ n := by
  unfold membN
  exact Nat.le_trans (List.length_filter_le _ _) (by simp)
end
end Go.Sx

/- Walks, printed by a program out of the code of the functions: each theorem is a contract of one function. -/
namespace Go.Proofs.YtoadjlmbdliceaaGreat
open Go Go.Sx
set_option linter.all false
set_option maxRecDepth 20000
set_option maxHeartbeats 4000000
instance T.by_4 : Has (bytesK Tryz.prog 4) ([.bool false], 1, 1) := ⟨by kernel_rfl⟩
instance T.by_68 : Has (bytesK Tryz.prog 68) ([.slice none 0 0], 1, 24) := ⟨by kernel_rfl⟩
instance T.elt_64 : Has (eltK Tryz.prog 64) (68, 1) := ⟨by kernel_rfl⟩
instance T.elt_68 : Has (eltK Tryz.prog 68) (4, 1) := ⟨by kernel_rfl⟩
instance T.ty_64 : Has (tyK Tryz.prog 64) (false, 1) := ⟨by kernel_rfl⟩
instance T.ty_68 : Has (tyK Tryz.prog 68) (false, 1) := ⟨by kernel_rfl⟩
instance T.und_64 : Has (Tryz.prog.underlying 64) (.slice 68) := ⟨by kernel_rfl⟩
instance T.und_68 : Has (Tryz.prog.underlying 68) (.slice 4) := ⟨by kernel_rfl⟩
instance T.zero_64 : Has (zeroK Tryz.prog 64) [.slice none 0 0] := ⟨by kernel_rfl⟩
theorem indexFunc_Rep (I : IMap) (v : Value) (l : List Rep) (hv : RdS I v l) (f : FuncId) (cs : List Value) (p : Rep → Bool) (hp : ∀ x ∈ l, ∀ vs, Enc.rd I vs x → FnV Tryz.prog f ([Value.agg vs.toArray] ++ cs).toArray I (.bool (p x))) :
    FnV Tryz.prog 97 #[v, .func (.func f) #[] cs.toArray] I (.int .i64 (idxF p l)) := by
 obtain ⟨A, c, rfl, hA, hc, hm⟩ := hv
 refine enter Tryz.func97 Tryz.call97 rfl Tryz.ntmps97 rfl (fun w0 => ?_)
 refine go 14 ?_
 refine c_loop (α := Nat) 0 (fun i => I)
  (fun i => [(0, .slice A l.length c), (1, .func (.func f) #[] cs.toArray), (7, .int .i64 (l.length : Int)), (8, .int .i64 (i : Int))])
  (fun i => [])
  (fun i => i ≤ l.length ∧ ∀ j x, j < i → l[j]? = some x → p x = false)
  (fun i => l.length - i) ⟨Nat.zero_le _, fun j x hj => absurd hj (Nat.not_lt_zero j)⟩ rfl sb rfl ?_
 intro i ⟨hi, hn⟩
 refine go 6 ?_
 refine cb rfl (fun h9 p9 => ?_) (fun h9 p9 => ?_)
 ·have hlt : i < l.length := by omega
  refine go 15 ?_
  obtain ⟨b14, o14, w14, e14, c14, r14⟩ := RdA.at_ hA (i := i) hlt
  refine o_v rfl (v_idx he rfl rfl e14 (i) (by omega) hlt) ?_
  refine o_v rfl (v_ldIa he rfl c14 (Enc.len r14)) ?_
  refine go 1 ?_
  refine o_callV (hp _ (List.getElem_mem hlt) _ r14) rfl rfl ?_
  refine go 2 ?_
  refine cb rfl (fun h16 p16 => ?_) (fun h16 p16 => ?_)
  ·refine go 12 ?_
   refine fin1 rfl rfl ?_
   exact q_v (congrArg (Value.int .i64) (idxF_found hlt p16 hn).symm)
  ·refine go 8 ?_
   exact q_next (i + 1) ⟨by omega, idx_next hn hlt p16⟩ (by omega) rfl sb rfl
 ·refine go 11 ?_
  refine fin1 rfl rfl ?_
  exact q_v (congrArg (Value.int .i64) (idxF_none (fun j x hj => hn j x (by omega))).symm)

theorem containsFunc_Rep (I : IMap) (v : Value) (l : List Rep) (hv : RdS I v l) (f : FuncId) (cs : List Value) (p : Rep → Bool) (hp : ∀ x ∈ l, ∀ vs, Enc.rd I vs x → FnV Tryz.prog f ([Value.agg vs.toArray] ++ cs).toArray I (.bool (p x))) :
    FnV Tryz.prog 61 #[v, .func (.func f) #[] cs.toArray] I (.bool (l.any p)) := by
 refine enter Tryz.func61 Tryz.call61 rfl Tryz.ntmps61 rfl (fun w0 => ?_)
 refine go 10 ?_
 refine o_callV (indexFunc_Rep I v l hv f cs p hp) rfl rfl ?_
 refine go 5 ?_
 refine fin1 rfl rfl ?_
 exact q_v (congrArg Value.bool (idxF_any p l))

theorem index_bool (I : IMap) (v : Value) (l : List Bool) (hv : RdS I v l) (b : Bool) :
    FnV Tryz.prog 69 #[v, .bool b] I (.int .i64 (idxF (fun x => b == x) l)) := by
 obtain ⟨A, c, rfl, hA, hc, hm⟩ := hv
 refine enter Tryz.func69 Tryz.call69 rfl Tryz.ntmps69 rfl (fun w0 => ?_)
 refine go 14 ?_
 refine c_loop (α := Nat) 0 (fun i => I)
  (fun i => [(0, .slice A l.length c), (1, .bool b), (7, .int .i64 ((l.length : Nat) : Int)), (8, .int .i64 ((i : Nat) : Int))])
  (fun i => [])
  (fun i => i ≤ l.length ∧ ∀ j x, j < i → l[j]? = some x → (fun x => b == x) x = false)
  (fun i => l.length - i) ⟨Nat.zero_le _, fun j x hj => absurd hj (Nat.not_lt_zero j)⟩ rfl sb rfl ?_
 intro i ⟨hi, hn⟩
 refine go 6 ?_
 refine cb rfl (fun h9 p9 => ?_) (fun h9 p9 => ?_)
 ·have hlt : i < l.length := by omega
  refine go 15 ?_
  obtain ⟨b14, o14, w14, e14, c14, r14⟩ := RdA.at_ hA (i := i) hlt
  obtain rfl := r14
  refine o_v rfl (v_idx he rfl rfl e14 (i) (by omega) hlt) ?_
  refine o_v rfl (v_ldI he rfl (c14 0 _ rfl)) ?_
  refine o_v rfl (v_beql he rfl rfl) ?_
  refine go 2 ?_
  refine cb rfl (fun h16 p16 => ?_) (fun h16 p16 => ?_)
  ·refine go 12 ?_
   refine fin1 rfl rfl ?_
   exact q_v (congrArg (Value.int .i64) (idxF_found (p := (fun x => b == x)) hlt h16 hn).symm)
  ·refine go 8 ?_
   exact q_next (i + 1) ⟨by omega, idx_next (p := (fun x => b == x)) hn hlt h16⟩ (by omega) rfl sb rfl
 ·refine go 11 ?_
  refine fin1 rfl rfl ?_
  exact q_v (congrArg (Value.int .i64) (idxF_none (p := (fun x => b == x)) (fun j x hj => hn j x (by omega))).symm)

theorem contains_bool (I : IMap) (v : Value) (l : List Bool) (hv : RdS I v l) (b : Bool) :
    FnV Tryz.prog 70 #[v, .bool b] I (.bool (l.any (fun x => b == x))) := by
 refine enter Tryz.func70 Tryz.call70 rfl Tryz.ntmps70 rfl (fun w0 => ?_)
 refine go 10 ?_
 refine o_callV (index_bool I v l hv b) rfl rfl ?_
 refine go 5 ?_
 refine fin1 rfl rfl ?_
 exact q_v (congrArg Value.bool (idxF_any _ l))

theorem possBad (I : IMap) (r : Rep) (vs : List Value) (h : Enc.rd I vs r) (hs : ∀ e ∈ r.options, SmE e) :
    FnV Tryz.prog 62 #[.agg vs.toArray] I (.bool (!validRep r)) := by
 obtain ⟨s, rfl, hr0⟩ := h
 have hr1 := hr0
 obtain ⟨S, d, rfl, _⟩ := hr1
 have hr := hr0
 refine enter Tryz.func62 Tryz.call62 rfl Tryz.ntmps62 rfl (fun w0 => ?_)
 refine go 3 ?_
 refine o_box _ rfl rfl rfl (fun g1 => ?_)
 refine go 7 ?_
 refine o_callV (repValid _ r S d hr hs) rfl rfl ?_
 refine go 5 ?_
 refine fin1 rfl rfl ?_
 exact q_v rfl

theorem possPick (I : IMap) (v : Value) (l : List Rep) (hv : RdS I v l) (w : Value) (C : List Nat) (hw : RdS I w (nI C)) (hC : ∀ i ∈ C, i < l.length) (hC6 : C.length ≤ 1000000) :
    FnI Tryz.prog 63 #[v, w] I (fun u J => RdS J u (pickN l C)) := by
 have hv0 := hv
 obtain ⟨A, c0, rfl, hA, hc, hm⟩ := hv
 obtain ⟨B, c1, rfl, hB, hcb, hmb⟩ := hw
 rw [nI_len] at hcb ⊢
 refine enter Tryz.func63 Tryz.call63 rfl Tryz.ntmps63 rfl (fun w0 => ?_)
 refine go 7 ?_
 refine sx_nilrow 47 2 ?_
 refine go 12 ?_
 refine c_loop3 ((0 : Nat)) (_) ([]) (fun i v5 xs => I)
  (fun i v5 xs => [(0, .slice A l.length c0), (5, v5), (8, .slice B C.length c1), (9, .int .i64 ((C.length : Nat) : Int)), (10, .int .i64 ((i : Nat) : Int))])
  (fun i v5 xs => [.row v5 47 2 i xs])
  (fun i v5 xs => i ≤ C.length ∧ Flat I xs (pickN l (C.take i)))
  (fun i v5 xs => C.length - i) ⟨Nat.zero_le _, .nil⟩ rfl sb rfl ?_
 intro i v5 xs ⟨hi, hF⟩
 refine go 6 ?_
 refine cb rfl (fun h11 p11 => ?_) (fun h11 p11 => ?_)
 ·have hlt : i < C.length := by omega
  have hcl := hC _ (List.getElem_mem hlt)
  refine go 6 ?_
  obtain ⟨b12, o12, w12, e12, c12, r12⟩ := RdA.at_ hB (i := i) (by first | exact hlt | (rw [nI_len]; exact hlt))
  rw [nI_at hlt] at r12
  obtain rfl := r12
  refine o_v rfl (v_idx he rfl rfl e12 (i) (by omega) (by first | exact hlt | (rw [nI_len]; exact hlt))) ?_
  refine o_v rfl (v_ldI he rfl (c12 0 _ rfl)) ?_
  refine go 7 ?_
  obtain ⟨b17, o17, w17, e17, c17, r17⟩ := RdA.at_ hA (i := C[i]) hcl
  obtain ⟨q17, rfl, S17, d17, rfl, hS17, hd17, hm17⟩ := r17
  refine o_v rfl (v_idx he rfl rfl e17 (C[i]) (by omega) hcl) ?_
  refine o_v rfl (v_ldIa he rfl c17 rfl) ?_
  refine go 1 ?_
  refine o_buildSlice he he rfl rfl rfl rfl rfl rfl rfl (fun v19 => ?_)
  refine go 1 ?_
  refine bring1 ?_
  refine o_appendO he he rfl rfl rfl rfl rfl (by omega) (by omega) rfl (fun v20 => ?_)
  refine go 9 ?_
  refine bring1 ?_
  refine sx_drop ?_
  exact q_next3 (i + 1) (_) (_) ⟨by omega, by rw [← take_succ_of hlt, pickN_append, pickN_cons hcl]; exact hF.append (.one ⟨_, rfl, ⟨_, _, rfl, hS17, hd17, hm17⟩⟩)⟩ (by omega) rfl sb rfl
 ·obtain rfl : i = C.length := by omega
  rw [List.take_length] at hF
  refine go 7 ?_
  refine sx_pubrow (l := pickN l C) rfl (by rw [pickN_len hC]) (hF) (fun Ip jp Rp => ?_)
  refine go 5 ?_
  refine fin1 rfl rfl ?_
  exact q_i Rp

theorem ref14Picked (I : IMap) (v : Value) (l : List Rep) (hv : RdS I v l) (w : Value) (C : List Nat) (hw : RdS I w (nI C)) (hC : ∀ i ∈ C, i < l.length) (hC6 : C.length ≤ 1000000) :
    FnI Tryz.prog 45 #[v, w] I (fun u J => RdS J u (pickN l C)) := by
 have hv0 := hv
 obtain ⟨A, c0, rfl, hA, hc, hm⟩ := hv
 obtain ⟨B, c1, rfl, hB, hcb, hmb⟩ := hw
 rw [nI_len] at hcb ⊢
 refine enter Tryz.func45 Tryz.call45 rfl Tryz.ntmps45 rfl (fun w0 => ?_)
 refine go 7 ?_
 refine sx_nilrow 47 2 ?_
 refine go 10 ?_
 refine c_loop3 ((0 : Nat)) (_) ([]) (fun i v5 xs => I)
  (fun i v5 xs => [(0, .slice A l.length c0), (1, .slice B C.length c1), (5, v5), (6, .int .i64 ((i : Nat) : Int))])
  (fun i v5 xs => [.row v5 47 2 i xs])
  (fun i v5 xs => i ≤ C.length ∧ Flat I xs (pickN l (C.take i)))
  (fun i v5 xs => C.length - i) ⟨Nat.zero_le _, .nil⟩ rfl sb rfl ?_
 intro i v5 xs ⟨hi, hF⟩
 refine go 9 ?_
 refine cb rfl (fun h10 p10 => ?_) (fun h10 p10 => ?_)
 ·have hlt : i < C.length := by omega
  have hcl := hC _ (List.getElem_mem hlt)
  refine go 9 ?_
  obtain ⟨b17, o17, w17, e17, c17, r17⟩ := RdA.at_ hB (i := i) (by first | exact hlt | (rw [nI_len]; exact hlt))
  rw [nI_at hlt] at r17
  obtain rfl := r17
  refine o_v rfl (v_idx he rfl rfl e17 (i) (by omega) (by first | exact hlt | (rw [nI_len]; exact hlt))) ?_
  refine o_v rfl (v_ldI he rfl (c17 0 _ rfl)) ?_
  obtain ⟨b19, o19, w19, e19, c19, r19⟩ := RdA.at_ hA (i := C[i]) hcl
  obtain ⟨q19, rfl, S19, d19, rfl, hS19, hd19, hm19⟩ := r19
  refine o_v rfl (v_idx he rfl rfl e19 (C[i]) (by omega) hcl) ?_
  refine o_v rfl (v_ldIa he rfl c19 rfl) ?_
  refine go 1 ?_
  refine o_buildSlice he he rfl rfl rfl rfl rfl rfl rfl (fun v21 => ?_)
  refine go 1 ?_
  refine bring1 ?_
  refine o_appendO he he rfl rfl rfl rfl rfl (by omega) (by omega) rfl (fun v22 => ?_)
  refine go 10 ?_
  refine bring1 ?_
  refine sx_drop ?_
  exact q_next3 (i + 1) (_) (_) ⟨by omega, by rw [← take_succ_of hlt, pickN_append, pickN_cons hcl]; exact hF.append (.one ⟨_, rfl, ⟨_, _, rfl, hS19, hd19, hm19⟩⟩)⟩ (by omega) rfl sb rfl
 ·obtain rfl : i = C.length := by omega
  rw [List.take_length] at hF
  refine go 7 ?_
  refine sx_pubrow (l := pickN l C) rfl (by rw [pickN_len hC]) (hF) (fun Ip jp Rp => ?_)
  refine go 5 ?_
  refine fin1 rfl rfl ?_
  exact q_i Rp

theorem possMark (I : IMap) (g10 g6 gO : Nat) (C : List Nat) (CA : Option Addr) (cC : Nat) (hCA : RdA I CA (nI C)) (w : Value) (h : List Int) (hw : RdS I w h) (hch : C.length = h.length) (l : List Rep) (M : Nat → Int → Bool) (Q : List Row) (hQ : List.map Prod.snd Q = Tab l M) (hCl : ∀ q (h1 : q < C.length) (h2 : q < h.length), ∃ h3 : C[q] < l.length, 0 ≤ h[q] ∧ h[q] < chs l[C[q]]) (hh : h.length ≤ 1000000) :
    FnH Tryz.prog 64 #[w, .pointer (some ⟨g10, 0, none⟩), .pointer (some ⟨g6, 0, none⟩)] I (.blk g10 28 [.slice CA C.length cC] :: .blk gO 68 (oC Q).flatten :: .blk g6 64 [.slice (some ⟨gO, 0, none⟩) l.length l.length] :: List.map (tabR 4) Q) (fun u J H2 => ∃ Q2 : List Row, H2 = .blk g10 28 [.slice CA C.length cC] :: .blk gO 68 (oC Q2).flatten :: .blk g6 64 [.slice (some ⟨gO, 0, none⟩) l.length l.length] :: List.map (tabR 4) Q2 ∧ List.map Prod.snd Q2 = Tab l (markM M C h)) := by
 have hw0 := hw
 obtain ⟨HA, hc, rfl, hH, hhc, hhm⟩ := hw
 have hC6 : C.length ≤ 1000000 := by omega
 refine enter Tryz.func64 Tryz.call64 rfl Tryz.ntmps64 rfl (fun w0 => ?_)
 refine go 8 ?_
 refine c_loop2 ((0 : Nat)) (Q) (fun k Q1 => I)
  (fun k Q1 => [(0, .slice HA h.length hc), (2, .pointer (some ⟨g6, 0, none⟩)), (6, .slice CA C.length cC), (7, .int .i64 ((C.length : Nat) : Int)), (8, .int .i64 ((k : Nat) : Int))])
  (fun k Q1 => .blk g10 28 [.slice CA C.length cC] :: .blk gO 68 (oC Q1).flatten :: .blk g6 64 [.slice (some ⟨gO, 0, none⟩) l.length l.length] :: List.map (tabR 4) Q1)
  (fun k Q1 => k ≤ C.length ∧ List.map Prod.snd Q1 = Tab l (markM M (C.take k) (h.take k)))
  (fun k Q1 => C.length - k) ⟨Nat.zero_le _, by rw [markM_nil]; exact hQ⟩ rfl sb rfl ?_
 intro k Q1 ⟨hk, hQ1⟩
 have hQl := row_len hQ1
 refine go 6 ?_
 refine cb rfl (fun h9 p9 => ?_) (fun h9 p9 => ?_)
 ·have hlt : k < C.length := by omega
  have hlh : k < h.length := by omega
  obtain ⟨hcl, h0, h1⟩ := hCl k hlt hlh
  have hq : C[k] < Q1.length := by omega
  have hrl : Q1[C[k]].2.length = (chs l[C[k]]).toNat := by rw [row_at hQ1 hcl hq]; simp
  have hx : h[k].toNat < Q1[C[k]].2.length := by omega
  refine go 7 ?_
  obtain ⟨b11, o11, w11, e11, c11, r11⟩ := RdA.at_ hCA (i := k) (by first | exact hlt | (rw [nI_len]; exact hlt))
  rw [nI_at hlt] at r11
  obtain rfl := r11
  refine o_v rfl (v_idx he rfl rfl e11 (k) (by omega) (by first | exact hlt | (rw [nI_len]; exact hlt))) ?_
  refine o_v rfl (v_ldI he rfl (c11 0 _ rfl)) ?_
  refine go 4 ?_
  refine sx_pull3 (f := tabR 4) hq ?_
  refine d_start1 T.mixed ?_
  refine d_tv 0 rfl rfl (by kernel_rfl) rfl (.cons _ (.refl _)) rfl (v_ld m2 he rfl rfl) ?_
  refine d_tv 1 rfl rfl (by kernel_rfl) rfl (.cons _ (.refl _)) rfl (v_move rfl) ?_
  refine d_tv 2 rfl rfl (by kernel_rfl) rfl (.cons _ (.refl _)) rfl (v_idx he rfl rfl rfl (C[k]) (by omega) hcl) ?_
  refine d_tv 3 rfl rfl (by kernel_rfl) rfl (.cons _ (.refl _)) rfl (v_lds m1 (oC_uk _) he rfl (C[k]) (by omega) (oC_at0 hq)) ?_
  refine d_tv 4 rfl rfl (by kernel_rfl) rfl (.cons _ (.refl _)) rfl (v_move rfl) ?_
  refine d_tv 5 rfl rfl (by kernel_rfl) rfl (.cons _ (.refl _)) rfl (v_move rfl) ?_
  obtain ⟨b19, o19, w19, e19, c19, r19⟩ := RdA.at_ hH (i := k) (by omega)
  obtain rfl := r19
  refine d_tv 6 rfl rfl (by kernel_rfl) rfl (.cons _ (.refl _)) rfl (v_idx he rfl rfl e19 (k) (by omega) (by omega)) ?_
  refine d_tv 7 rfl rfl (by kernel_rfl) rfl (.cons _ (.refl _)) rfl (v_ldI he rfl (c19 0 _ rfl)) ?_
  refine d_tv 8 rfl rfl (by kernel_rfl) rfl (.cons _ (.refl _)) rfl (v_idx he rfl rfl rfl (h[k].toNat) (by omega) hx) ?_
  refine d_one 9 (by kernel_rfl) rfl ?_
  refine o_st1 he rfl rfl rfl (by rw [bC_len, Nat.blt_eq]; omega) ?_
  refine sx_blkeq (bC (Q1[C[k]].2.set h[k].toNat true)) (by rw [Nat.zero_add, Nat.mul_one, bC_set]) ?_
  refine d_on (fun _ m => m.keeps (.cons _ (.refl _))) ?_
  refine d_done (by kernel_rfl) ?_
  refine go 3 ?_
  refine sx_push3 (f := tabR 4) (Q1[C[k]].1, Q1[C[k]].2.set h[k].toNat true) hq ?_
  refine go 4 ?_
  exact q_next2 (k + 1) ((Q1.set C[k] (Q1[C[k]].1, Q1[C[k]].2.set h[k].toNat true))) ⟨by omega, by rw [markM_succ hlt hlh]; exact row_mark hQ1 hcl h0 h1 hq⟩ (by omega) rfl sb (by rw [oC_set hq _ (by simp)])
 ·obtain rfl : k = C.length := by omega
  rw [List.take_length, hch, List.take_length] at hQ1
  refine go 4 ?_
  refine end0 rfl ?_
  exact q_post (fun _ m => m) ⟨Q1, rfl, hQ1⟩

theorem possChoices (I : IMap) (vc : Value) (c : List Kind) (hvc : RdS I vc c) (hsc : SmC c) (v : Value) (l : List Rep) (hv : RdS I v l) (hl : l.length ≤ 1000000) (hsl : ∀ r ∈ l, ∀ e ∈ r.options, SmE e) (h30 : l.length ≤ 30) (hw : waysN l < 4096) :
    FnI Tryz.prog 37 #[.agg #[vc], v] I (fun u J => ∃ w, u = .tuple #[w, .int .i64 (choF c l).2] ∧ RdS J w (choF c l).1) := by
 obtain ⟨R, hRt⟩ := roots_ex l
 have hv0 := hv
 obtain ⟨A, c0, rfl, hA, hc, hm⟩ := hv
 refine enter Tryz.func37 Tryz.call37 rfl Tryz.ntmps37 rfl (fun w0 => ?_)
 refine go 3 ?_
 refine o_box _ rfl rfl rfl (fun g2 => ?_)
 refine go 9 ?_
 refine o_callV (catValid _ vc c hvc hsc) rfl rfl ?_
 refine go 2 ?_
 refine sxb 19 rfl (fun h19 p19 => ?_) (fun h19 p19 => ?_)
 ·have hbad : validC c = false ∨ l.any (fun r => decide (chs r = 0)) = true := .inl (by simpa using h19)
  refine go 5 ?_
  refine c_true rfl ?_
  refine go 8 ?_
  refine fin2 rfl rfl rfl ?_
  exact q_i ⟨_, by rw [cho_bad hbad], by rw [cho_bad hbad]; exact RdS.nil'⟩
 ·refine go 2 ?_
  refine o_yes rfl rfl h19 (o_callV (containsFunc_Rep _ _ l hv0 _ [] (fun r => !validRep r) (fun x hx vs h => possBad _ x vs h (hsl x hx))) rfl rfl ?_)
  refine go 3 ?_
  refine cb rfl (fun h22 p22 => ?_) (fun h22 p22 => ?_)
  ·have hbad : validC c = false ∨ l.any (fun r => decide (chs r = 0)) = true := .inr (by rw [← bad_any]; exact h22)
   refine go 8 ?_
   refine fin2 rfl rfl rfl ?_
   exact q_i ⟨_, by rw [cho_bad hbad], by rw [cho_bad hbad]; exact RdS.nil'⟩
  ·have hC : validC c = true := by simpa using h19
   have hP : ∀ q ∈ l, chs q ≠ 0 := fun q hq h0 => by
     rw [bad_any] at h22
     have := List.any_eq_false.1 h22 q hq
     simp [h0] at this
   refine go 7 ?_
   refine o_makeSlice he he rfl rfl rfl (by omega) (by omega) rfl (fun g25 => ?_)
   refine go 1 ?_
   refine o_alloc he rfl (fun g6 => ?_)
   refine go 1 ?_
   refine o_stw _ he rfl rfl rfl rfl rfl rfl ?_
   refine go 11 ?_
   refine bring2 ?_
   refine bring1 ?_
   refine bring2 ?_
   refine c_loop2 ((0 : Nat)) ([]) (fun i Q => I)
    (fun i Q => [(1, .slice A l.length c0), (2, .pointer (some ⟨g2, 0, none⟩)), (6, .pointer (some ⟨g6, 0, none⟩)), (27, .int .i64 ((l.length : Nat) : Int)), (28, .int .i64 ((i : Nat) : Int))])
    (fun i Q => .blk g25 68 (oC Q ++ List.replicate (l.length - List.length Q) [Value.slice none 0 0]).flatten :: .blk g6 64 [.slice (some ⟨g25, 0, none⟩) l.length l.length] :: .blk g2 24 [vc] :: List.map (tabR 4) Q)
    (fun i Q => i ≤ l.length ∧ List.length Q = i ∧ List.map Prod.snd Q = (l.take i).map fun r => List.replicate (chs r).toNat false)
    (fun i Q => l.length - i) ⟨Nat.zero_le _, rfl, rfl⟩ rfl sb rfl ?_
   intro i Q ⟨hi, hQi, hQs⟩
   refine go 6 ?_
   refine cb rfl (fun h29 p29 => ?_) (fun h29 p29 => ?_)
   ·have hlt : i < l.length := by omega
    have hc5 := chs_five l[i]
    refine go 10 ?_
    refine d_start1 T.mixed ?_
    refine d_tv 0 rfl rfl (by kernel_rfl) rfl (.cons _ (.refl _)) rfl (v_ld m0 he rfl rfl) ?_
    refine d_tv 1 rfl rfl (by kernel_rfl) rfl (.cons _ (.refl _)) rfl (v_move rfl) ?_
    refine d_tv 2 rfl rfl (by kernel_rfl) rfl (.cons _ (.refl _)) rfl (v_move rfl) ?_
    refine d_tv 3 rfl rfl (by kernel_rfl) rfl (.cons _ (.refl _)) rfl (v_move rfl) ?_
    obtain ⟨b35, o35, w35, e35, c35, r35⟩ := RdA.at_ hA (i := i) (by omega)
    obtain ⟨q35, rfl, S35, d35, rfl, hS35, hd35, hm35⟩ := r35
    refine d_tv 4 rfl rfl (by kernel_rfl) rfl (.cons _ (.refl _)) rfl (v_idx he rfl rfl e35 (i) (by omega) (by omega)) ?_
    refine d_tv 5 rfl rfl (by kernel_rfl) rfl (.cons _ (.refl _)) rfl (v_ldIa he rfl c35 rfl) ?_
    refine d_one 6 (by kernel_rfl) rfl ?_
    refine o_callV (FnV.cast (repChoices _ l[i] S35 d35 ⟨_, _, rfl, hS35, hd35, hm35⟩ (hsl _ (List.getElem_mem hlt))) (congrArg (Value.int .i64) (Int.toNat_of_nonneg (chs_nn _)).symm)) rfl rfl ?_
    refine d_on (fun _ m => m.keeps (.cons _ (.refl _))) ?_
    refine d_one 7 (by kernel_rfl) rfl ?_
    refine o_makeSlice he he rfl rfl rfl (by omega) (by omega) rfl (fun g38 => ?_)
    refine d_on (fun _ m => m.keeps (.cons _ (.cons _ (.refl _)))) ?_
    refine d_tv 8 rfl rfl (by kernel_rfl) rfl (.cons _ (.cons _ (.refl _))) rfl (v_idx he rfl rfl rfl (i) (by omega) (by omega)) ?_
    refine d_one 9 (by kernel_rfl) rfl ?_
    refine bring1 ?_
    refine o_stc _ (i) (Uk.append (oC_uk _) (rep_uk _)) he rfl rfl rfl rfl rfl (by omega) (by simp [oC_len]; omega) ?_
    refine sx_blkeq _ (congrArg List.flatten (oC_next' hQi hlt g38 (chs l[i]).toNat)) ?_
    refine d_on (fun _ m => m.keeps (.cons _ (.cons _ (.refl _)))) ?_
    refine d_done (by kernel_rfl) ?_
    refine go 3 ?_
    refine bring3 ?_
    refine bring3 ?_
    refine bring2 ?_
    refine bring3 ?_
    refine sx_blkeq _ (bC_rep _) ?_
    refine sx_join3 (f := tabR 4) (l := Q) (g38, List.replicate (chs l[i]).toNat false) ?_
    refine go 4 ?_
    exact q_next2 (i + 1) ((Q ++ [(g38, List.replicate (chs l[i]).toNat false)])) ⟨by omega, by simp [hQi], by rw [tab_next hlt, List.map_append, hQs]; rfl⟩ (by omega) rfl sb (by simp only [List.length_append]; rfl)
   ·obtain rfl : i = l.length := by omega
    rw [List.take_length, tab_zero] at hQs
    refine sx_blkeq (oC Q).flatten (by rw [hQi, Nat.sub_self]; simp) ?_
    refine go 15 ?_
    refine o_call (linkComps _ _ l hv0 hl hsl R hRt) rfl rfl (fun v42 I42 j42 q42 => ?_)
    try have hvc := hvc.le j42
    try have hv0 := hv0.le j42
    try have hA := hA.le j42
    try have hCA := hCA.le j42
    try have q52 := q52.le j42
    try have hS46 := hS46.le j42
    try have hHA := hHA.le j42
    try have hw53 := hw53.le j42
    have q42s := q42
    obtain ⟨CA, cc, rfl, hCA, _, _⟩ := q42s
    have hcl0 : ((compsN R l.length).map nI).length = (rootsN R l.length).length := by simp [compsN]
    refine o_v rfl (OV.cast (u := .int .i64 (((rootsN R l.length).length : Nat) : Int)) (v_len_slice he rfl) (congrArg (Value.int .i64) (by rw [hcl0]))) ?_
    refine go 4 ?_
    refine c_loop4 ((0 : Nat)) (Q) (0) (I42) (fun j Q1 z J => J)
     (fun j Q1 z J => [(1, .slice A l.length c0), (2, .pointer (some ⟨g2, 0, none⟩)), (6, .pointer (some ⟨g6, 0, none⟩)), (42, .slice CA ((compsN R l.length).map nI).length cc), (43, .int .i64 (((rootsN R l.length).length : Nat) : Int)), (44, .int .i64 ((j : Nat) : Int)), (8, .int .i64 z)])
     (fun j Q1 z J => .blk g25 68 (oC Q1).flatten :: .blk g6 64 [.slice (some ⟨g25, 0, none⟩) l.length l.length] :: .blk g2 24 [vc] :: List.map (tabR 4) Q1)
     (fun j Q1 z J => j ≤ (rootsN R l.length).length ∧ ILe I42 J ∧ List.map Prod.snd Q1 = Tab l (markR c l R ((rootsN R l.length).take j)) ∧ z = dbtR c l R ((rootsN R l.length).take j))
     (fun j Q1 z J => (rootsN R l.length).length - j) ⟨Nat.zero_le _, ILe.refl _, by rw [markR_nil]; exact hQs, by simp [dbtR]⟩ rfl sb rfl ?_
    intro j Q1 z J ⟨hj, hJ, hQ1, hz⟩
    have hvc := hvc.le hJ
    have hv0 := hv0.le hJ
    have hA := hA.le hJ
    have hCA := hCA.le hJ
    refine go 6 ?_
    refine cb rfl (fun h45 p45 => ?_) (fun h45 p45 => ?_)
    ·have hlt : j < (rootsN R l.length).length := by omega
     obtain ⟨Hs, hHs⟩ : ∃ q, q = histF c (pickN l (membN R l.length (rootsN R l.length)[j])) := ⟨_, rfl⟩
     have hpk := pk_all (R := R) hC hP h30 hw (rootsN R l.length)[j]
     rw [← hHs] at hpk
     have hmb := memb_le (R := R) (n := l.length) (r := (rootsN R l.length)[j])
     refine go 6 ?_
     obtain ⟨b46, o46, w46, e46, c46, r46⟩ := RdA.at_ hCA (i := j) (by omega)
     rw [comp_at hlt] at r46
     obtain ⟨q46, rfl, S46, d46, rfl, hS46, hd46, hm46⟩ := r46
     refine o_v rfl (v_idx he rfl rfl e46 (j) (by omega) (by omega)) ?_
     refine o_v rfl (OV.cast (u := .slice S46 (membN R l.length (rootsN R l.length)[j]).length d46) (v_ldI he rfl (c46 0 _ rfl)) (by rw [nI_len])) ?_
     refine go 1 ?_
     refine o_alloc he rfl (fun g10 => ?_)
     refine go 1 ?_
     refine o_stw _ he rfl rfl rfl rfl rfl rfl ?_
     refine go 3 ?_
     refine sx_knowI (fun hE13 hf13 => ?_)
     refine d_startH T.mixed ?_
     refine d_tv 0 rfl rfl (by kernel_rfl) rfl (.refl _) rfl (v_ldw m3 he rfl rfl) ?_
     refine d_tv 1 rfl rfl (by kernel_rfl) rfl (.refl _) rfl (v_move rfl) ?_
     refine d_tv 2 rfl rfl (by kernel_rfl) rfl (.refl _) rfl (v_ld m0 he rfl rfl) ?_
     refine d_one 3 (by kernel_rfl) rfl ?_
     refine o_call (possPick _ _ l hv0 _ (membN R l.length (rootsN R l.length)[j]) ⟨S46, d46, by rw [nI_len], hS46, hd46, hm46⟩ (fun i hi => memb_lt hi) (by omega)) rfl rfl (fun v52 I52 j52 q52 => ?_)
     try have hvc := hvc.le j52
     try have hv0 := hv0.le j52
     try have hA := hA.le j52
     try have hCA := hCA.le j52
     try have q52 := q52.le j52
     try have hS46 := hS46.le j52
     try have hHA := hHA.le j52
     try have hw53 := hw53.le j52
     refine d_on (fun _ m => m.keepsI (.refl _) (j52) hE13 hf13) ?_
     refine d_one 4 (by kernel_rfl) rfl ?_
     refine o_call (seAll _ vc c hvc hsc _ (pickN l (membN R l.length (rootsN R l.length)[j])) q52 (by rw [pickN_len fun i hi => memb_lt hi]; omega) (pick_sm hsl) 4096) rfl rfl (fun v53 I53 j53 q53 => ?_)
     try have hvc := hvc.le j53
     try have hv0 := hv0.le j53
     try have hA := hA.le j53
     try have hCA := hCA.le j53
     try have q52 := q52.le j53
     try have hS46 := hS46.le j53
     try have hHA := hHA.le j53
     try have hw53 := hw53.le j53
     obtain ⟨w53, rfl, hw53⟩ := q53
     rw [hpk.1] at hw53
     rw [hpk.2.1]
     obtain ⟨HA, hcc, rfl, hHA, _, _⟩ := hw53
     refine d_on (fun _ m => m.keepsI (.refl _) ((j52).trans j53) hE13 hf13) ?_
     refine d_t 5 rfl rfl (by kernel_rfl) rfl (fun _ m => m.keepsI (.refl _) ((j52).trans j53) hE13 hf13) (y_v rfl (v_move rfl)) ?_
     refine d_t 6 rfl rfl (by kernel_rfl) rfl (fun _ m => m.keepsI (.refl _) ((j52).trans j53) hE13 hf13) (y_v rfl (v_extract rfl rfl)) ?_
     refine d_t 7 rfl rfl (by kernel_rfl) rfl (fun _ m => m.keepsI (.refl _) ((j52).trans j53) hE13 hf13) (y_v rfl (v_extract rfl rfl)) ?_
     refine d_t 8 rfl rfl (by kernel_rfl) rfl (fun _ m => m.keepsI (.refl _) ((j52).trans j53) hE13 hf13) (y_v rfl (v_assign rfl)) ?_
     refine d_t 9 rfl rfl (by kernel_rfl) rfl (fun _ m => m.keepsI (.refl _) ((j52).trans j53) hE13 hf13) (y_v rfl (v_assign rfl)) ?_
     refine d_done (by kernel_rfl) ?_
     refine go 2 ?_
     refine c_cutx (α := Int) (Ix := (fun z2 => I53)) (Lx := (fun z2 => [(1, .slice A l.length c0), (2, .pointer (some ⟨g2, 0, none⟩)), (6, .pointer (some ⟨g6, 0, none⟩)), (42, .slice CA ((compsN R l.length).map nI).length cc), (43, .int .i64 (((rootsN R l.length).length : Nat) : Int)), (44, .int .i64 ((j : Nat) : Int)), (8, .int .i64 z2), (10, .pointer (some ⟨g10, 0, none⟩)), (11, .slice HA Hs.length hcc)])) (Hx := (fun z2 => .blk g10 28 [.slice S46 (membN R l.length (rootsN R l.length)[j]).length d46] :: .blk g25 68 (oC Q1).flatten :: .blk g6 64 [.slice (some ⟨g25, 0, none⟩) l.length l.length] :: .blk g2 24 [vc] :: List.map (tabR 4) Q1)) (p := (fun z2 => z2 = dbtR c l R ((rootsN R l.length).take (j + 1)))) ?_ ?_
     ·refine go 4 ?_
      refine o_v rfl (OV.cast (u := .bool false) (v_eql rfl rfl) (congrArg Value.bool (by split <;> decide))) ?_
      refine go 3 ?_
      refine o_cons (o_yes rfl rfl rfl (o_val rfl (OV.cast (u := .bool false) (v_eql rfl rfl) (congrArg Value.bool (decide_eq_false (by have := hpk.2.2; omega)))) ?_))
      refine go 4 ?_
      refine c_false rfl ?_
      refine go 7 ?_
      refine cb rfl (fun h64 p64 => ?_) (fun h64 p64 => ?_)
      ·have hHn : Hs = [] := Classical.byContradiction fun h => by simp [h] at h64
       refine go 6 ?_
       exact q_cutx (if Hs = [] then (21 : Int) else 0) (by rw [dbtR_succ hlt, ← hHs, if_pos hHn, if_pos hHn]) sb rfl rfl
      ·have hHn : ¬ Hs = [] := fun h => by simp [h] at h64
       refine go 3 ?_
       exact q_cutx z (by rw [dbtR_succ hlt, ← hHs, if_neg hHn]; exact hz) sb rfl rfl
     ·intro z2 hz2
      refine go 2 ?_
      refine o_v rfl (v_makeFunc rfl rfl) ?_
      refine go 11 ?_
      refine c_loop3 ((0 : Nat)) (Q1) (I53) (fun k Q2 J2 => J2)
       (fun k Q2 J2 => [(1, .slice A l.length c0), (2, .pointer (some ⟨g2, 0, none⟩)), (6, .pointer (some ⟨g6, 0, none⟩)), (42, .slice CA ((compsN R l.length).map nI).length cc), (43, .int .i64 (((rootsN R l.length).length : Nat) : Int)), (44, .int .i64 ((j : Nat) : Int)), (8, .int .i64 z2), (13, .func (.func 64) #[] #[.pointer (some ⟨g10, 0, none⟩), .pointer (some ⟨g6, 0, none⟩)]), (69, .slice HA Hs.length hcc), (70, .int .i64 ((Hs.length : Nat) : Int)), (71, .int .i64 ((k : Nat) : Int))])
       (fun k Q2 J2 => .blk g10 28 [.slice S46 (membN R l.length (rootsN R l.length)[j]).length d46] :: .blk g25 68 (oC Q2).flatten :: .blk g6 64 [.slice (some ⟨g25, 0, none⟩) l.length l.length] :: .blk g2 24 [vc] :: List.map (tabR 4) Q2)
       (fun k Q2 J2 => k ≤ Hs.length ∧ ILe I53 J2 ∧ List.map Prod.snd Q2 = Tab l (markA (markR c l R ((rootsN R l.length).take j)) (membN R l.length (rootsN R l.length)[j]) (Hs.take k)))
       (fun k Q2 J2 => Hs.length - k) ⟨Nat.zero_le _, ILe.refl _, by rw [markA_nil]; exact hQ1⟩ rfl sb rfl ?_
      intro k Q2 J2 ⟨hk, hJ2, hQ2⟩
      have hHA := hHA.le hJ2
      have hS46 := hS46.le hJ2
      refine go 6 ?_
      refine cb rfl (fun h72 p72 => ?_) (fun h72 p72 => ?_)
      ·have hlk : k < Hs.length := by omega
       have hfit := pk_fit (c := c) (l := l) (C := (membN R l.length (rootsN R l.length)[j])) (t := Hs[k]) (fun i hi => memb_lt hi) (by rw [← hHs]; exact List.getElem_mem hlk)
       refine go 6 ?_
       obtain ⟨b73, o73, w73, e73, c73, r73⟩ := RdA.at_ hHA (i := k) (by omega)
       obtain ⟨q73, rfl, S73, d73, rfl, hS73, hd73, hm73⟩ := r73
       refine o_v rfl (v_idx he rfl rfl e73 (k) (by omega) (by omega)) ?_
       refine o_v rfl (v_ldI he rfl (c73 0 _ rfl)) ?_
       refine go 7 ?_
       refine bring3 ?_
       refine o_callT (possMark _ g10 g6 g25 (membN R l.length (rootsN R l.length)[j]) S46 d46 hS46 _ Hs[k] ⟨_, _, rfl, hS73, hd73, hm73⟩ hfit.1 l _ Q2 hQ2 hfit.2 (by have := hfit.1; omega)) rfl rfl (fun v77 I77 H77 j77 q77 => ?_)
       obtain ⟨Q3, rfl, hQ3⟩ := q77
       refine go 8 ?_
       refine bring3 ?_
       refine bring3 ?_
       refine bring3 ?_
       exact q_next3 (k + 1) (Q3) (_) ⟨by omega, hJ2.trans j77, by rw [hQ3, markA_succ hlk]⟩ (by omega) rfl sb rfl
      ·obtain rfl : k = Hs.length := by omega
       rw [List.take_length] at hQ2
       refine go 11 ?_
       refine sx_drop ?_
       exact q_next4 (j + 1) (Q2) (z2) (_) ⟨by omega, hJ.trans (j52.trans (j53.trans hJ2)), by rw [hQ2, markR_succ hlt, ← hHs], hz2⟩ (by omega) rfl sb rfl
    ·obtain rfl : j = (rootsN R l.length).length := by omega
     rw [List.take_length] at hQ1 hz
     rw [dbtR_all hRt hC hP (by omega)] at hz
     refine go 12 ?_
     refine cb rfl (fun h81 p81 => ?_) (fun h81 p81 => ?_)
     ·refine go 9 ?_
      refine fin2 rfl rfl rfl ?_
      have hn : histF c l = [] := Classical.byContradiction fun h => p81 (by rw [hz, if_neg h])
      exact q_i ⟨_, by rw [cho_ok hC hP, if_pos hn, hz, if_pos hn], by rw [cho_ok hC hP, if_pos hn]; exact RdS.nil'⟩
     ·have hn : ¬ histF c l = [] := fun h => by rw [hz, if_pos h] at h81; cases h81
      have hQl := row_len hQ1
      have hrow : ∀ p ∈ Q1, p.2.length ≤ 9223372036854775807 := fun p hp => by
        obtain ⟨i, hi, rfl⟩ := List.getElem_of_mem hp
        have h5 := chs_five (l[i]'(by omega))
        rw [row_at hQ1 (by omega) hi, List.length_map, List.length_range]; omega
      have htab : List.map Prod.snd Q1 = Tab l (hasF c l) := by rw [hQ1]; exact tab_congr fun i hi k _ _ => mark_has hRt hC hP (by omega) hn hi k
      refine go 10 ?_
      refine fin2 rfl rfl rfl ?_
      refine bring1 ?_
      refine sx_drop ?_
      refine bring1 ?_
      refine sx_drop ?_
      refine sx_pubtab1 Q1 hrow (fun I9 hI9 h9 => ?_)
      refine sx_pub (fun I10 j10 c10 => ?_)
      exact q_i ⟨_, by rw [cho_ok hC hP, if_neg hn], by rw [cho_ok hC hP, if_neg hn, ← htab]; exact ⟨_, _, by rw [List.length_map, hQl], Flat.rda (oC_flat Q1 fun p hp => (h9 p hp).le j10) c10, by rw [List.length_map]; omega, by omega⟩⟩

end Go.Proofs.YtoadjlmbdliceaaGreat

/- What is possible and what is sure: the plain laws. -/
set_option linter.all false
namespace Go.Sx
open Go
/-! the only true one of a list -/
def fstT (l : List Bool) : Int := idxF (fun x => true == x) l
def onlyF (l : List Bool) : Int := if ((l.drop (fstT l + 1).toNat).any fun x => true == x) = true then -1 else fstT l
def cntF (l : List Bool) : Nat := (l.filter id).length
def lastF : List Bool → Int
  | [] => -1
  | b :: l => if 0 ≤ lastF l then lastF l + 1 else if b = true then 0 else -1
theorem fstT_le (l : List Bool) : -1 ≤ fstT l ∧ fstT l < (l.length : Nat) := by
  refine ⟨idxF_ge _ _, ?_⟩
  rcases idxF_find (fun x => true == x) l with ⟨h, _⟩ | ⟨i, hi, h, _⟩
  · have : fstT l < 0 := h
    omega
  · have : fstT l = i := h
    omega
theorem cntF_snoc (l : List Bool) (b : Bool) : cntF (l ++ [b]) = if b = true then cntF l + 1 else cntF l := by
  cases b <;> simp [cntF, List.filter_append]
theorem lastF_snoc : ∀ (l : List Bool) (b : Bool), lastF (l ++ [b]) = if b = true then (l.length : Int) else lastF l
  | [], b => by cases b <;> simp [lastF]
  | x :: l, b => by
    rw [List.cons_append, lastF, lastF_snoc l b, lastF]
    cases b with
    | true => simp
    | false => simp
theorem cntF_step {l : List Bool} {k : Nat} (h : k < l.length) : cntF (l.take (k + 1)) = if l[k] = true then cntF (l.take k) + 1 else cntF (l.take k) := by
  rw [← take_succ_of h, cntF_snoc]
theorem lastF_step {l : List Bool} {k : Nat} (h : k < l.length) : lastF (l.take (k + 1)) = if l[k] = true then (k : Int) else lastF (l.take k) := by
  rw [← take_succ_of h, lastF_snoc, List.length_take, Nat.min_eq_left (by omega)]
/-- one true element, others behind it -/
theorem true_split : ∀ {l : List Bool}, cntF l ≠ 0 → ∃ (q : Nat) (B : List Bool), l = List.replicate q false ++ true :: B
  | [], h => by simp [cntF] at h
  | true :: l, _ => ⟨0, l, rfl⟩
  | false :: l, h => by
    obtain ⟨q, B, e⟩ := true_split (l := l) (by simpa [cntF] using h)
    exact ⟨q + 1, B, by rw [e]; rfl⟩
theorem fst_split (q : Nat) (B : List Bool) : fstT (List.replicate q false ++ true :: B) = q := by
  refine idxF_found (p := fun x => true == x) (i := q) (by simp) (by simp) fun j x hj hx => ?_
  rw [List.getElem?_append_left (by simpa using hj)] at hx
  have : x = false := List.eq_of_mem_replicate (List.mem_of_getElem? hx)
  rw [this]; rfl
theorem cnt_split (q : Nat) (B : List Bool) : cntF (List.replicate q false ++ true :: B) = cntF B + 1 := by
  simp [cntF, List.filter_append, List.filter_replicate]
theorem cntF_zero {B : List Bool} : cntF B = 0 ↔ (B.any fun x => true == x) = false := by
  simp [cntF, List.any_eq_false]
theorem last_none : ∀ {B : List Bool}, cntF B = 0 → lastF B = -1
  | [], _ => rfl
  | true :: B, h => by simp [cntF] at h
  | false :: B, h => by
    have := last_none (B := B) (by simpa [cntF] using h)
    simp [lastF, this]
theorem last_split (B : List Bool) (h : cntF B = 0) : ∀ q, lastF (List.replicate q false ++ true :: B) = q
  | 0 => by simp [lastF, last_none h]
  | q + 1 => by
    rw [List.replicate_succ, List.cons_append, lastF, last_split B h q, if_pos (by omega)]; simp
theorem only_split (q : Nat) (B : List Bool) : onlyF (List.replicate q false ++ true :: B) = if cntF B = 0 then (q : Int) else -1 := by
  unfold onlyF
  rw [fst_split]
  have e : ((q : Int) + 1).toNat = q + 1 := by omega
  have e2 : (List.replicate q false ++ true :: B).drop (q + 1) = B := by
    rw [List.drop_append, List.length_replicate]; simp
  rw [e, e2]
  by_cases h : cntF B = 0
  · rw [if_pos h, if_neg (by rw [cntF_zero.1 h]; decide)]
  · rw [if_neg h, if_pos]
    cases hb : (B.any fun x => true == x) with
    | true => rfl
    | false => exact absurd (cntF_zero.2 hb) h
theorem only_one {l : List Bool} (h : cntF l = 1) : onlyF l = lastF l := by
  obtain ⟨q, B, rfl⟩ := true_split (l := l) (by omega)
  rw [cnt_split] at h
  rw [only_split, if_pos (by omega), last_split B (by omega)]
theorem only_many {l : List Bool} (h : 1 < cntF l) : onlyF l = -1 := by
  obtain ⟨q, B, rfl⟩ := true_split (l := l) (by omega)
  rw [cnt_split] at h
  rw [only_split, if_neg (by omega)]
/-- if one is sure, it is the only one that is true -/
theorem only_is {l : List Bool} (h0 : cntF l ≠ 0) (h : 0 ≤ onlyF l) {k : Nat} (hk : k < l.length) (ht : l[k] = true) : onlyF l = k := by
  obtain ⟨q, B, rfl⟩ := true_split h0
  rw [only_split] at h ⊢
  split at h
  · rename_i hB
    rw [if_pos hB]
    have hB2 := cntF_zero.1 hB
    rcases Nat.lt_trichotomy k q with h1 | h1 | h1
    · rw [List.getElem_append_left (by simpa using h1)] at ht
      simp at ht
    · rw [h1]
    · rw [List.getElem_append_right (by simp; omega)] at ht
      have hx : k - (List.replicate q false).length = (k - q - 1) + 1 := by simp; omega
      simp only [hx, List.getElem_cons_succ] at ht
      have := List.any_eq_false.1 hB2 _ (List.getElem_mem (l := B) (n := k - q - 1) (by simp at hk; omega))
      simp [ht] at this
  · omega
/-- the only true one, where there is just one -/
theorem only_of {l : List Bool} {k : Nat} (hk : k < l.length) (ht : l[k] = true) (hu : ∀ j (hj : j < l.length), l[j] = true → j = k) : onlyF l = k := by
  have h0 : cntF l ≠ 0 := by
    intro h
    have := List.any_eq_false.1 (cntF_zero.1 h) _ (List.getElem_mem hk)
    simp [ht] at this
  obtain ⟨q, B, e⟩ := true_split h0
  have hq : q < l.length := by rw [e]; simp
  have h1 : l[q] = true := by
    have : l[q]? = some true := by rw [e, List.getElem?_append_right (by simp)]; simp
    rw [List.getElem?_eq_getElem hq] at this
    exact Option.some.inj this
  have hqk := hu q hq h1
  subst hqk
  rw [e, only_split, if_pos]
  rw [cntF_zero, List.any_eq_false]
  intro x hx
  obtain ⟨j, hj, rfl⟩ := List.getElem_of_mem hx
  cases hb : B[j] with
  | false => decide
  | true =>
    exfalso
    have hlt : q + 1 + j < l.length := by rw [e]; simp; omega
    have h2 : l[q + 1 + j] = true := by
      have : l[q + 1 + j]? = some true := by
        rw [e, List.getElem?_append_right (by simp; omega)]
        have hx : q + 1 + j - (List.replicate q false).length = j + 1 := by simp; omega
        rw [hx, List.getElem?_cons_succ, List.getElem?_eq_getElem hj, hb]
      rw [List.getElem?_eq_getElem hlt] at this
      exact Option.some.inj this
    have := hu _ hlt h2
    omega
/-! what Sure answers -/
def sureF (c : List Kind) (l : List Rep) : List Int × Int := if (choF c l).2 ≠ 0 then ([], (choF c l).2) else ((choF c l).1.map onlyF, 0)
section
variable {c : List Kind} {l : List Rep}
theorem cho_cases (c : List Kind) (l : List Rep) : (choF c l).2 = 1 ∧ (choF c l).1 = [] ∨ (choF c l).2 = 21 ∧ (choF c l).1 = [] ∨ (choF c l).2 = 0 := by
  unfold choF
  split
  · exact .inl ⟨rfl, rfl⟩
  · split
    · exact .inl ⟨rfl, rfl⟩
    · split
      · exact .inr (.inl ⟨rfl, rfl⟩)
      · exact .inr (.inr rfl)
theorem cho_zero (h : (choF c l).2 = 0) : validC c = true ∧ (∀ q ∈ l, chs q ≠ 0) ∧ histF c l ≠ [] ∧ (choF c l).1 = Tab l (hasF c l) := by
  unfold choF at h ⊢
  split at h
  · cases h
  · rename_i hc
    split at h
    · cases h
    · rename_i ha
      split at h
      · cases h
      · rename_i hh
        refine ⟨by simpa using hc, fun q hq h0 => ha (List.any_eq_true.2 ⟨q, hq, by simp [h0]⟩), hh, ?_⟩
        rw [if_neg hc, if_neg ha, if_neg hh]
theorem sure_no (h : ¬ (choF c l).2 = 0) : sureF c l = ([], (choF c l).2) := by unfold sureF; rw [if_pos h]
theorem sure_yes (h : (choF c l).2 = 0) : sureF c l = ((choF c l).1.map onlyF, 0) := by unfold sureF; rw [if_neg (fun h' => h' h)]
theorem has_iff {i : Nat} {k : Int} (hi : i < l.length) : hasF c l i k = true ↔ ∃ t ∈ histF c l, ∃ h : i < t.length, t[i] = k := by
  unfold hasF
  rw [List.any_eq_true]
  constructor
  · rintro ⟨t, ht, h⟩
    have hl : i < t.length := by rw [(all_mem.1 (hist_in_all ht)).1]; exact hi
    rw [getD_at hl] at h
    exact ⟨t, ht, hl, by simpa using h⟩
  · rintro ⟨t, ht, hl, h⟩
    exact ⟨t, ht, by rw [getD_at hl]; simpa using h⟩
theorem cho_row {i : Nat} (h : (choF c l).2 = 0) (hi : i < l.length) : ∃ hT : i < (choF c l).1.length, (choF c l).1[i].length = (chs l[i]).toNat ∧ ∀ k (hk : k < (choF c l).1[i].length), (choF c l).1[i][k] = hasF c l i (k : Int) := by
  obtain ⟨_, _, _, e⟩ := cho_zero h
  have hT : i < (choF c l).1.length := by rw [e, tab_len]; exact hi
  have e2 : (choF c l).1[i] = (List.range (chs l[i]).toNat).map fun (k : Nat) => hasF c l i (k : Int) := by
    simp only [e]; exact tab_at _ hi _
  refine ⟨hT, by rw [e2]; simp, fun k hk => ?_⟩
  simp only [e2, List.getElem_map, List.getElem_range]
theorem cho_len (h : (choF c l).2 = 0) : (choF c l).1.length = l.length := by rw [(cho_zero h).2.2.2, tab_len]
/-- each report has a choice -/
theorem cho_some {i : Nat} (h : (choF c l).2 = 0) (hi : i < l.length) {hT : i < (choF c l).1.length} : cntF (choF c l).1[i] ≠ 0 := by
  obtain ⟨hc, hp, hn, _⟩ := cho_zero h
  obtain ⟨t, ht⟩ := List.exists_mem_of_ne_nil _ hn
  obtain ⟨h1, h2⟩ := all_mem.1 (hist_in_all ht)
  obtain ⟨_, h3, h4⟩ := cho_row h hi
  have hb := h2 i hi (by omega)
  intro h0
  have hk : (t[i]'(by omega)).toNat < (choF c l).1[i].length := by rw [h3]; omega
  have h5 := h4 _ hk
  have h6 : hasF c l i (((t[i]'(by omega)).toNat : Nat) : Int) = true := (has_iff hi).2 ⟨t, ht, by omega, by omega⟩
  rw [h6] at h5
  have := List.any_eq_false.1 (cntF_zero.1 h0) _ (List.getElem_mem hk)
  simp [h5] at this
end
end Go.Sx

/- What is possible: the example of the chapter, sizes, a report that is decided. -/
set_option linter.all false
namespace Go.Sx
open Go
abbrev pMotor : ByteArray := ⟨#[109, 111, 116, 111, 114]⟩
abbrev pM : ByteArray := ⟨#[109]⟩
abbrev pCoach : ByteArray := ⟨#[99, 111, 97, 99, 104]⟩
abbrev pM1 : ByteArray := ⟨#[109, 49]⟩
abbrev pM2 : ByteArray := ⟨#[109, 50]⟩
abbrev pV1 : ByteArray := ⟨#[118, 49]⟩
def pxMade (p k : ByteArray) : Evt := ⟨1, 1, p, k, nil8, nil8, nil8, nil8, zUse⟩
def pxFit (p : ByteArray) : Evt := ⟨2, 3, p, nil8, pV1, pM, nil8, nil8, zUse⟩
def pxScrap (p : ByteArray) : Evt := ⟨7, 2, p, nil8, nil8, nil8, nil8, nil8, zUse⟩
def pxC : List Kind := [⟨pMotor, false, []⟩, ⟨pCoach, true, [⟨pM, [pMotor], 1⟩]⟩]
def pxL : List Rep := [⟨[pxMade pM1 pMotor], false⟩, ⟨[pxMade pV1 pCoach], false⟩, ⟨[pxFit pM1, pxFit pM2], false⟩, ⟨[pxScrap pM1], true⟩]
theorem px_smC : SmC pxC := by
  intro k hk
  simp only [pxC, List.mem_cons, List.not_mem_nil, or_false] at hk
  rcases hk with rfl | rfl
  · exact ⟨by decide, fun s hs => (by cases hs)⟩
  · refine ⟨by decide, fun s hs => ?_⟩
    obtain rfl := List.mem_singleton.1 hs
    refine ⟨by decide, fun k hk => ?_⟩
    obtain rfl := List.mem_singleton.1 hk
    decide
theorem px_sm : ∀ r ∈ pxL, ∀ e ∈ r.options, SmE e := by
  intro r hr e he
  simp only [pxL, List.mem_cons, List.not_mem_nil, or_false] at hr
  rcases hr with rfl | rfl | rfl | rfl <;> simp only [List.mem_cons, List.not_mem_nil, or_false] at he
  · subst he; exact ⟨by decide, by decide, by decide, by decide, by decide, by decide⟩
  · subst he; exact ⟨by decide, by decide, by decide, by decide, by decide, by decide⟩
  · rcases he with rfl | rfl <;> exact ⟨by decide, by decide, by decide, by decide, by decide, by decide⟩
  · subst he; exact ⟨by decide, by decide, by decide, by decide, by decide, by decide⟩
theorem px_cho : choF pxC pxL = ([[true], [true], [true, false], [false, true]], 0) := by decide +kernel
theorem px_sure : sureF pxC pxL = ([0, 0, 0, 1], 0) := by decide +kernel
theorem px_sure2 : sureF pxC (pxL.drop 2) = ([], 21) := by decide +kernel
/-- few reports, few combinations -/
def few17 (l : List Rep) (n : Int) : Bool := fewR l n && decide (((waysGo 729 1 l : Nat) : Int) ≤ 729)
theorem few17_sm {l : List Rep} {n : Int} (h : few17 l n = true) : fewR l n = true ∧ waysN l ≤ 729 := by
  simp only [few17, Bool.and_eq_true, decide_eq_true_eq] at h
  refine ⟨h.1, ?_⟩
  have := ways_le l 1 h.2
  rw [Nat.one_mul] at this
  omega
/-- the list in which a report has one choice alone -/
def decF (l : List Rep) (i k : Nat) (r : Rep) : List Rep := l.take i ++ ((if k < r.options.length then [oneOf r k] else []) ++ l.drop (i + 1))
section
variable {c : List Kind} {l : List Rep} {i k : Nat}
theorem dec_one (hi : i < l.length) (hk : k < l[i].options.length) : decF l i k l[i] = l.set i (oneOf l[i] k) := by
  rw [decF, if_pos hk, set_mid hi]; rfl
theorem dec_none (hi : i < l.length) (hk : ¬ k < l[i].options.length) : decF l i k l[i] = cutAt l i := by
  rw [decF, if_neg hk, cutAt]; rfl
theorem err_of (hc : validC c = true) (hp : ∀ q ∈ l, chs q ≠ 0) (h30 : l.length ≤ 30) : errF c l = 0 := err_few0 h30 hc hp
/-- choices with one more at an index -/
def putAt (t : List Int) (i : Nat) (k : Int) : List Int := t.take i ++ k :: t.drop i
theorem putAt_cut {t : List Int} {k : Int} (hi : i ≤ t.length) : cutAt (putAt t i k) i = t := by
  have e : (t.take i).length = i := by rw [List.length_take]; omega
  rw [cutAt, putAt, List.take_left' e, List.drop_append, e, List.drop_eq_nil_of_le (by omega), show i + 1 - i = 1 by omega]
  simp
theorem putAt_at {t : List Int} {k : Int} (hi : i ≤ t.length) : ∃ h : i < (putAt t i k).length, (putAt t i k)[i] = k := by
  have e : (t.take i).length = i := by rw [List.length_take]; omega
  have h : i < (putAt t i k).length := by simp [putAt]; omega
  refine ⟨h, ?_⟩
  simp only [putAt]
  rw [List.getElem_append_right (by omega)]
  simp [e]
theorem none_chs (hi : i < l.length) (hv : validRep l[i] = true) (hk : ¬ k < l[i].options.length) (h : (k : Int) < chs l[i]) : l[i].doubtful = true ∧ k = l[i].options.length := by
  have : chs l[i] = if l[i].doubtful = true then ((l[i].options.length : Nat) : Int) + 1 else ((l[i].options.length : Nat) : Int) := by simp [chs, hv]
  rw [this] at h
  split at h
  · rename_i hd; exact ⟨hd, by omega⟩
  · omega
theorem cut_hist {t : List Int} (hc : validC c = true) (hp : ∀ q ∈ l, chs q ≠ 0) (hi : i < l.length) (hk : ¬ k < l[i].options.length) (hkc : (k : Int) < chs l[i]) (hl : t.length = l.length) (hti : ∃ h : i < t.length, t[i] = (k : Int)) : cutAt t i ∈ histF c (cutAt l i) ↔ t ∈ histF c l := by
  obtain ⟨h1, h2⟩ := hti
  have hv := valid_chs (hp _ (List.getElem_mem hi))
  obtain ⟨hd, hke⟩ := none_chs hi hv hk hkc
  rw [hist_mem, hist_mem, is_cut hl hi h1 (by rw [h2, hke]; exact none_fine hv hd (by omega)) (fun day => by rw [h2, hke]; exact none_opt _ _)]
/-- a choice is possible exactly if the list with it alone has a history -/
theorem dec_has (hc : validC c = true) (hp : ∀ q ∈ l, chs q ≠ 0) (h30 : l.length ≤ 30) (hi : i < l.length) (hkc : (k : Int) < chs l[i]) : hasF c l i (k : Int) = true ↔ histF c (decF l i k l[i]) ≠ [] := by
  rw [has_iff hi]
  by_cases hk : k < l[i].options.length
  · rw [dec_one hi hk, hist_one (err_of hc hp h30) hi hk, selF]
    rw [Ne, List.map_eq_nil_iff, List.filter_eq_nil_iff]
    constructor
    · rintro ⟨t, ht, h1, h2⟩ hn
      have := hn t ht
      rw [getD_at h1, h2] at this
      simp at this
    · intro hn
      refine Classical.byContradiction fun hc2 => hn fun t ht h3 => hc2 ?_
      have hl : i < t.length := by rw [(all_mem.1 (hist_in_all ht)).1]; exact hi
      rw [getD_at hl] at h3
      exact ⟨t, ht, hl, by simpa using h3⟩
  · rw [dec_none hi hk]
    constructor
    · rintro ⟨t, ht, h1, h2⟩ hn
      have := (cut_hist hc hp hi hk hkc (all_mem.1 (hist_in_all ht)).1 ⟨h1, h2⟩).2 ht
      rw [hn] at this; cases this
    · intro hn
      obtain ⟨s, hs⟩ := List.exists_mem_of_ne_nil _ hn
      have hsl := (all_mem.1 (hist_in_all hs)).1
      have e1 := cutAt_len hi
      have hpl : (putAt s i (k : Int)).length = l.length := by simp [putAt]; omega
      obtain ⟨h1, h2⟩ := putAt_at (t := s) (i := i) (k := (k : Int)) (by omega)
      refine ⟨putAt s i (k : Int), (cut_hist hc hp hi hk hkc hpl ⟨h1, h2⟩).1 (by rw [putAt_cut (by omega)]; exact hs), h1, h2⟩
theorem decF_pos (hp : ∀ q ∈ l, chs q ≠ 0) (hi : i < l.length) : ∀ q ∈ decF l i k l[i], chs q ≠ 0 := fun q hq => by
  unfold decF at hq
  rcases List.mem_append.1 hq with hq | hq
  · exact hp q (List.mem_of_mem_take hq)
  · rcases List.mem_append.1 hq with hq | hq
    · split at hq
      · rename_i hk
        rw [List.mem_singleton.1 hq, one_chs (valid_chs (hp _ (List.getElem_mem hi))) hk]; decide
      · cases hq
    · exact hp q (List.mem_of_mem_drop hq)
theorem dec_len (hi : i < l.length) : (decF l i k l[i]).length ≤ l.length := by
  unfold decF
  rw [List.length_append, List.length_append, List.length_take, List.length_drop]
  split <;> simp <;> omega
theorem dec_sm (h : ∀ r ∈ l, ∀ e ∈ r.options, SmE e) (hi : i < l.length) : ∀ r ∈ decF l i k l[i], ∀ e ∈ r.options, SmE e := fun r hr e he => by
  unfold decF at hr
  rcases List.mem_append.1 hr with hr | hr
  · exact h r (List.mem_of_mem_take hr) e he
  · rcases List.mem_append.1 hr with hr | hr
    · split at hr
      · rename_i hk
        rw [List.mem_singleton.1 hr] at he
        exact one_sm (h _ (List.getElem_mem hi)) hk e he
      · cases hr
    · exact h r (List.mem_of_mem_drop hr) e he
theorem dec_ways (hp : ∀ q ∈ l, chs q ≠ 0) (hi : i < l.length) : waysN (decF l i k l[i]) ≤ waysN l := by
  by_cases hk : k < l[i].options.length
  · rw [dec_one hi hk]
    have hv := valid_chs (hp _ (List.getElem_mem hi))
    have e : waysN (l.set i (oneOf l[i] k)) = (allCh (l.set i (oneOf l[i] k))).length := (all_len _).symm
    rw [e, set_mid hi, all_swap (r := l[i]) (P := fun x : Int => decide (x = (k : Int))) (f := fun _ => 0) (k := i) (by rw [List.length_take]; omega) (by rw [one_chs hv hk, range_one (by have := opt_chs hv; omega)]; rfl), List.length_map, ← cut_whole hi, ← all_len]
    exact List.length_filter_le _ _
  · rw [dec_none hi hk]
    refine ways_sub ?_ hp
    rw [cutAt]
    conv => rhs; rw [← List.take_append_drop i l]
    exact (List.Sublist.refl _).append (List.drop_sublist_drop_left _ (by omega))
/-- First, where there is no error -/
theorem first_code2 (hc : validC c = true) (hp : ∀ q ∈ l, chs q ≠ 0) (h30 : l.length ≤ 30) : (firstF c l).2 = if histF c l = [] then 21 else 0 := by
  rw [first_code, all_code (by decide) (by decide), if_neg (show ¬ (errF c l ≠ 0) by simp [err_of hc hp h30])]
end
theorem set_take {m : List Int} {j : Nat} (h : j < m.length) (x : Int) : (m.set j x).take (j + 1) = m.take j ++ [x] := by
  have h2 : j < (m.set j x).length := by simpa using h
  rw [← take_succ_of h2]
  simp [List.take_set_of_le]
theorem sure_step {m : List Int} {T : List (List Bool)} {j : Nat} (h : j < m.length) (hT : j < T.length) (hm : m.take j = (T.take j).map onlyF) {x : Int} (hx : onlyF T[j] = x) : (m.set j x).take (j + 1) = (T.take (j + 1)).map onlyF := by
  rw [set_take h, hm, ← take_succ_of hT, List.map_append, ← hx]; rfl
theorem flat_three {α : Type} [Enc α] {I : IMap} {xs ys zs : List Value} {a b d : List α} (h1 : Flat I xs a) (h2 : Flat I ys b) (h3 : Flat I zs d) : Flat I (xs ++ ys ++ zs) (a ++ (b ++ d)) := by
  rw [← List.append_assoc]; exact (h1.append h2).append h3
end Go.Sx

/- A region that draws its order, with many loud operations: what each leaves behind does not depend on the order. -/
set_option linter.all false
namespace Go.Sx
open Go
/-- a loud operation: its index, its slot, what it needs (index, slot), what is known of its value -/
structure Bit where
  i : Nat
  d : Nat
  deps : List (Nat × Nat)
  p : IMap → Value → Prop
def Bit.pre (b : Bit) (V : Nat → Value) : LL := b.deps.map fun q => (q.2, V q.1)
def AllB (q : Bit → Prop) : List Bit → Prop
  | [] => True
  | b :: r => q b ∧ AllB q r
theorem AllB.get {q : Bit → Prop} : ∀ {l : List Bit}, AllB q l → ∀ b ∈ l, q b
  | [], _, b, hb => by cases hb
  | x :: l, h, b, hb => by
    rcases List.mem_cons.1 hb with rfl | hb
    · exact h.1
    · exact h.2.get b hb
theorem AllB.mk {q : Bit → Prop} : ∀ {l : List Bit}, (∀ b ∈ l, q b) → AllB q l
  | [], _ => trivial
  | x :: l, h => ⟨h x (by simp), AllB.mk fun b hb => h b (by simp [hb])⟩
/-- what is to be checked of the operations -/
def bagOk (ops : Array Oper) (listed : Array Bool) (bs : List (Nat × Nat × List (Nat × Nat))) (wi : Option Nat) (sz fuel : Nat) : Bool :=
  listed.size == ops.size && (List.range ops.size).all (fun i => listed.getD i false || (bs.any fun b => b.1 == i) || wi == some i) &&
  (bs.all fun b => !listed.getD b.1 true && Nat.blt b.2.1 sz && b.2.2.all fun q => (bs.any fun b' => b'.1 == q.1 && b'.2.1 == q.2) && ((ops[b.1]?).map fun o => o.after.any fun e => Region.binds .any e && e.on == q.1).getD false) &&
  (bs.map (·.1)).Nodup && (bs.map (·.2.1)).Nodup && (match wi with | some i => Nat.blt i ops.size && bs.all fun b => !(b.1 == i) | none => true) &&
  (List.range ops.size).all (fun i => ((ops[i]?).map fun o => o.after.all fun e => !Region.binds .any e || Nat.blt e.on i).getD false) &&
  Nat.ble ((List.range ops.size).filter fun i => !listed.getD i false).length fuel
section
variable {P : Program} {n : Sz} {E : Ent} {I I0 : IMap} {L0 : LL} {H0 H1 F : List Res} {Q : Exit → Act → World → Prop} {ops : Array Oper} {fuel : Nat} {listed : Array Bool}
theorem St.append {a : Act} {A X : LL} (h1 : St n a A) (h2 : St n a X) : St n a (A ++ X) := ⟨h1.size, h1.defers, fun i v h => by
  have key : ∀ A : LL, look (A ++ X) i = (look A i).or (look X i) := fun A => by
    induction A with
    | nil => rfl
    | cons p A ih =>
      simp only [List.cons_append, look]
      cases hb : Nat.beq i p.1 with
      | true => rfl
      | false => exact ih
  rw [key] at h
  cases hq : look A i with
  | none => rw [hq] at h; exact h2.get i v (by simpa using h)
  | some u => rw [hq] at h; exact h1.get i v (by rw [hq]; simpa using h)⟩
theorem St.of_all {a : Act} {X : LL} (hs : a.tmps.size = n.sz) (hd : a.defers = n.marks) (h : ∀ q ∈ X, a.tmps[q.1]? = some q.2) : St n a X := ⟨hs, hd, fun i v hv => by
  induction X with
  | nil => simp [look] at hv
  | cons p X ih =>
    simp only [look] at hv
    cases hb : Nat.beq i p.1 with
    | true =>
      rw [hb] at hv
      have e1 : i = p.1 := Nat.eq_of_beq_eq_true hb
      have e2 : p.2 = v := by simpa using hv
      rw [e1, ← e2]; exact h p (by simp)
    | false => rw [hb] at hv; exact ih (fun q hq => h q (by simp [hq])) (by simpa using hv)⟩
def wH (listed : Array Bool) (wi : Option Nat) (H0 H1 : List Res) : List Res := match wi with | some i => if listed.getD i false = true then H1 else H0 | none => H0
/-- what holds on the way -/
structure BInv (P : Program) (n : Sz) (E : Ent) (I : IMap) (L0 : LL) (H0 H1 : List Res) (Bs : List Bit) (wi : Option Nat) (listed : Array Bool) (a : Act) (w : World) (I1 : IMap) (V : Nat → Value) : Prop where
  le : ILe I I1
  mem : Mem E I1 (wH listed wi H0 H1) w
  st : St n a L0
  bits : ∀ b ∈ Bs, listed.getD b.i false = true → a.tmps[b.d]? = some (V b.i) ∧ b.p I1 (V b.i)
theorem getD_or {l : Array Bool} {i : Nat} (h : l.getD i true = false) : l.getD i false = false ∧ i < l.size := by
  simp only [Array.getD_eq_getD_getElem?] at h ⊢
  cases hh : l[i]? with
  | none => rw [hh] at h; cases h
  | some b => rw [hh] at h; exact ⟨by simpa using h, (Array.getElem?_eq_some_iff.1 hh).1⟩
theorem getD_set {l : Array Bool} {i j : Nat} (h : i < l.size) : (l.setIfInBounds i true).getD j false = if i = j then true else l.getD j false := by
  simp only [Array.getD_eq_getD_getElem?, Array.getElem?_setIfInBounds]
  by_cases e : i = j
  · subst e; simp [h]
  · simp [e]
theorem cnt_set {l : Array Bool} {i m : Nat} (hi : i < m) (h : i < l.size) (h0 : l.getD i false = false) : ((List.range m).filter fun j => !(l.setIfInBounds i true).getD j false).length + 1 = ((List.range m).filter fun j => !l.getD j false).length := by
  induction m with
  | zero => omega
  | succ m ih =>
    rw [List.range_succ, List.filter_append, List.filter_append, List.length_append, List.length_append]
    by_cases e : i = m
    · subst e
      have : ((List.range i).filter fun j => !(l.setIfInBounds i true).getD j false) = (List.range i).filter fun j => !l.getD j false := by
        refine List.filter_congr fun j hj => ?_
        have := List.mem_range.1 hj
        rw [getD_set h, if_neg (by omega)]
      rw [this]
      have e1 : (l.setIfInBounds i true).getD i false = true := by rw [getD_set h, if_pos rfl]
      rw [List.filter_cons, List.filter_cons, e1, h0]
      simp
    · have := ih (by omega)
      have e1 : (l.setIfInBounds i true).getD m false = l.getD m false := by rw [getD_set h, if_neg e]
      have e2 : [m].filter (fun j => !(l.setIfInBounds i true).getD j false) = [m].filter fun j => !l.getD j false := List.filter_congr fun j hj => by rw [List.mem_singleton.1 hj, e1]
      rw [e2]; omega
theorem look_or (A X : LL) (i : Nat) : look (A ++ X) i = (look A i).or (look X i) := by
  induction A with
  | nil => rfl
  | cons p A ih =>
    simp only [List.cons_append, look]
    cases hb : Nat.beq i p.1 with
    | true => rfl
    | false => exact ih
theorem look_mem : ∀ {A : LL} {j : Nat} {u : Value}, look A j = some u → ∃ q ∈ A, q.1 = j ∧ q.2 = u
  | [], _, _, h => by cases h
  | p :: A, j, u, h => by
    simp only [look] at h
    cases hb : Nat.beq j p.1 with
    | true => rw [hb] at h; exact ⟨p, by simp, (Nat.eq_of_beq_eq_true hb).symm, by simpa using h⟩
    | false =>
      rw [hb] at h
      obtain ⟨q, hq, h2⟩ := look_mem (A := A) (by simpa using h)
      exact ⟨q, by simp [hq], h2⟩
theorem look_has : ∀ {A : LL} {q : Nat × Value}, q ∈ A → ∃ u, look A q.1 = some u
  | p :: A, q, h => by
    simp only [look]
    cases hb : Nat.beq q.1 p.1 with
    | true => exact ⟨p.2, rfl⟩
    | false =>
      rcases List.mem_cons.1 h with rfl | h
      · rw [Nat.beq_refl] at hb; cases hb
      · exact look_has h
theorem inj_of_nodup {α β : Type} {f : α → β} : ∀ {l : List α}, (l.map f).Nodup → ∀ a ∈ l, ∀ b ∈ l, f a = f b → a = b
  | [], _, a, ha, _, _, _ => by cases ha
  | x :: l, h, a, ha, b, hb, e => by
    have h' := List.nodup_cons.1 h
    rcases List.mem_cons.1 ha with h1 | h1
    · rcases List.mem_cons.1 hb with h2 | h2
      · rw [h1, h2]
      · exact absurd (by rw [← h1, e]; exact List.mem_map_of_mem h2) h'.1
    · rcases List.mem_cons.1 hb with h2 | h2
      · exact absurd (by rw [← h2, ← e]; exact List.mem_map_of_mem h1) h'.1
      · exact inj_of_nodup h'.2 a h1 b h2 e
def wHe (wi : Option Nat) (H0 H1 : List Res) : List Res := match wi with | some _ => H1 | none => H0
theorem d_bag (Bs : List Bit) (wi : Option Nat) (hok : bagOk ops listed (Bs.map fun b => (b.i, b.d, b.deps)) wi n.sz fuel = true)
    (hmono : AllB (fun b => ∀ I1 I2 v, ILe I1 I2 → b.p I1 v → b.p I2 v) Bs) (hfr : AllB (fun b => look L0 b.d = none) Bs)
    (hw0 : ∀ i, wi = some i → listed.getD i false = false)
    (hC : ∀ I1 w, ILe I I1 → Mem E I1 H0 w → Keeps E I0 F w) (hC1 : ∀ i, wi = some i → ∀ I1 w, ILe I I1 → Mem E I1 H1 w → Keeps E I0 F w)
    (hstep : AllB (fun b => ∀ I1 (V : Nat → Value) X H o, ILe I I1 → ops[b.i]? = some o → AllB (fun b' => (b.deps.any fun q => q.1 == b'.i) = true → b'.p I1 (V b'.i)) Bs → ∀ K, (∀ v I2, ILe I1 I2 → b.p I2 v → SX n E I2 ((b.d, v) :: (b.pre V ++ (L0 ++ X))) H K) → SX n E I1 (b.pre V ++ (L0 ++ X)) H (one P ops (NQ Q) o K)) Bs)
    (hw : ∀ i, wi = some i → ∀ I1 X o, ILe I I1 → ops[i]? = some o → ∀ K, SX n E I1 (L0 ++ X) H1 K → SX n E I1 (L0 ++ X) H0 (one P ops (NQ Q) o K))
    (hend : ∀ I1 (V : Nat → Value), ILe I I1 → AllB (fun b => b.p I1 (V b.i)) Bs → SX n E I1 ((Bs.map fun b => (b.d, V b.i)) ++ L0) (wHe wi H0 H1) (Q .normal)) :
    SX n E I L0 H0 (wpAnyC P ops (NQ Q) (Keeps E I0 F) fuel listed) := by
  simp only [bagOk, Bool.and_eq_true, List.all_eq_true, List.mem_range, Bool.or_eq_true, List.any_eq_true, beq_iff_eq, decide_eq_true_eq, Bool.not_eq_true', List.mem_map] at hok
  obtain ⟨⟨⟨⟨⟨⟨⟨hsz, hcov⟩, hbit⟩, hni⟩, hnd⟩, hwb⟩, hdag⟩, hfu⟩ := hok
  have hfu := Nat.le_of_ble_eq_true hfu
  have hui : ∀ b ∈ Bs, ∀ b' ∈ Bs, b.i = b'.i → b = b' := inj_of_nodup (f := fun b : Bit => b.i) (by simpa [List.map_map, Function.comp_def] using hni)
  have hud : ∀ b ∈ Bs, ∀ b' ∈ Bs, b.d = b'.d → b = b' := inj_of_nodup (f := fun b : Bit => b.d) (by simpa [List.map_map, Function.comp_def] using hnd)
  have hb0 : ∀ b ∈ Bs, listed.getD b.i false = false := fun b hb => (getD_or (hbit (b.i, b.d, b.deps) ⟨b, hb, rfl⟩).1.1).1
  have hwlt : ∀ i, wi = some i → i < ops.size ∧ ∀ b ∈ Bs, b.i ≠ i := fun i hi => by
    subst hi
    simp only [Bool.and_eq_true, List.all_eq_true, List.mem_map, Bool.not_eq_true'] at hwb
    refine ⟨by have := hwb.1; simpa [Nat.blt_eq] using this, fun b hb e => ?_⟩
    have := hwb.2 (b.i, b.d, b.deps) ⟨b, hb, rfl⟩
    simp [e] at this
  have hfin : ∀ (ls : Array Bool) (a : Act) (w : World) (I1 : IMap) (V : Nat → Value), (∀ i < ops.size, ls.getD i false = true) → BInv P n E I L0 H0 H1 Bs wi ls a w I1 V → Q .normal a w := by
    intro ls a w I1 V hall hb
    have hbi : ∀ b ∈ Bs, b.i < ops.size := fun b hb => by
      have := (getD_or (hbit (b.i, b.d, b.deps) ⟨b, hb, rfl⟩).1.1).2
      simpa [hsz] using this
    refine hend I1 V hb.le (AllB.mk fun b h => (hb.bits b h (hall _ (hbi b h))).2) a w (St.append (St.of_all hb.st.size hb.st.defers fun q hq => ?_) hb.st) ?_
    · obtain ⟨b, h, rfl⟩ := List.mem_map.1 hq
      exact (hb.bits b h (hall _ (hbi b h))).1
    · have hm := hb.mem
      unfold wH at hm
      cases hwi : wi with
      | none => rw [hwi] at hm; exact hm
      | some i => rw [hwi] at hm; simp only [hall i (hwlt i hwi).1, if_true] at hm; exact hm
  have key : ∀ (fuel : Nat) (ls : Array Bool) (a : Act) (w : World) (I1 : IMap) (V : Nat → Value), ls.size = ops.size → (∀ i, listed.getD i false = true → ls.getD i false = true) → ((List.range ops.size).filter fun i => !ls.getD i false).length ≤ fuel →
      BInv P n E I L0 H0 H1 Bs wi ls a w I1 V → wpAnyC P ops (NQ Q) (Keeps E I0 F) fuel ls a w := by
    intro fuel
    induction fuel with
    | zero =>
      intro ls a w I1 V hs hle hf hb
      have hall : ∀ i < ops.size, ls.getD i false = true := fun i hi => by
        cases h : ls.getD i false with
        | true => rfl
        | false =>
          have : i ∈ (List.range ops.size).filter fun i => !ls.getD i false := List.mem_filter.2 ⟨List.mem_range.2 hi, by simp [h]⟩
          rw [List.eq_nil_of_length_eq_zero (Nat.le_zero.1 hf)] at this; cases this
      refine ⟨List.eq_nil_iff_forall_not_mem.2 fun i hi => ?_, hfin ls a w I1 V hall hb⟩
      obtain ⟨h1, h2⟩ := getD_or (mem_ready.1 hi).1
      rw [hall i (by omega)] at h1; cases h1
    | succ fuel ih =>
      intro ls a w I1 V hs hle hf hb
      refine ⟨fun hr => hfin ls a w I1 V (fun i hi => ?_) hb, fun i hi => ?_⟩
      · induction i using Nat.strongRecOn with
        | ind i ihi =>
          cases h : ls.getD i false with
          | true => rfl
          | false =>
            exfalso
            have : i ∈ Region.ready .any ops ls := by
              refine mem_ready.2 ⟨?_, ops[i], Array.getElem?_eq_getElem hi, fun e he hbd => ?_⟩
              · have hil : i < ls.size := by omega
                simp only [Array.getD_eq_getD_getElem?, Array.getElem?_eq_getElem hil, Option.getD_some] at h ⊢; exact h
              · have := hdag i hi
                rw [Array.getElem?_eq_getElem hi] at this
                simp only [Option.map_some, Option.getD_some, Array.all_eq_true_iff_forall_mem, Bool.or_eq_true, Bool.not_eq_true'] at this
                rcases this e he with h1 | h1
                · rw [hbd] at h1; cases h1
                · have h2 : e.on < i := by simpa [Nat.blt_eq] using h1
                  exact ihi e.on h2 (by omega)
            rw [hr] at this; cases this
      · obtain ⟨h1, o, ho, haf⟩ := mem_ready.1 hi
        obtain ⟨h2, h3⟩ := getD_or h1
        have hio : i < ops.size := by omega
        have hcnt := cnt_set (m := ops.size) hio h3 h2
        have hX : ∀ q ∈ (Bs.filter fun b => ls.getD b.i false).map (fun b => (b.d, V b.i)), a.tmps[q.1]? = some q.2 := fun q hq => by
          obtain ⟨b, h, rfl⟩ := List.mem_map.1 hq
          obtain ⟨h4, h5⟩ := List.mem_filter.1 h
          exact (hb.bits b h4 h5).1
        have hxl : ∀ b ∈ Bs, ls.getD b.i false = true → ∀ (Y : LL), (∀ u, look Y b.d = some u → u = V b.i) → look (Y ++ (L0 ++ (Bs.filter fun b => ls.getD b.i false).map (fun b => (b.d, V b.i)))) b.d = some (V b.i) := fun b hbm hbd Y hY => by
          rw [look_or]
          cases hq : look Y b.d with
          | some u => rw [hY u hq]; rfl
          | none =>
            rw [look_or, hfr.get b hbm]
            obtain ⟨u, hu⟩ := look_has (A := (Bs.filter fun b => ls.getD b.i false).map (fun b => (b.d, V b.i))) (q := (b.d, V b.i)) (List.mem_map.2 ⟨b, List.mem_filter.2 ⟨hbm, hbd⟩, rfl⟩)
            simp only at hu
            obtain ⟨q, hq1, hq2, hq3⟩ := look_mem hu
            obtain ⟨b2, h6, rfl⟩ := List.mem_map.1 hq1
            have := hud b2 (List.mem_filter.1 h6).1 b hbm hq2
            subst this
            rw [hu, ← hq3]; rfl
        unfold wpO
        simp only [ho]
        rcases hcov i hio with (h4 | ⟨b', ⟨b, hbm, rfl⟩, hbi⟩) | h4
        · rw [hle i h4] at h2; cases h2
        · simp only at hbi
          subst hbi
          have hdp : ∀ q ∈ b.deps, ∃ b' ∈ Bs, b'.i = q.1 ∧ b'.d = q.2 ∧ ls.getD b'.i false = true := fun q hq => by
            obtain ⟨⟨_, ⟨b', hb', rfl⟩, e1, e2⟩, h5⟩ := (hbit (b.i, b.d, b.deps) ⟨b, hbm, rfl⟩).2 q hq
            refine ⟨b', hb', e1, e2, ?_⟩
            simp only [ho, Option.map_some, Option.getD_some] at h5
            obtain ⟨k, hk, h8⟩ := Array.any_eq_true.1 h5
            simp only [Bool.and_eq_true, beq_iff_eq] at h8
            obtain ⟨h6, h7⟩ := h8
            have := haf _ (Array.getElem_mem hk) h6
            rw [h7, ← e1] at this; exact this
          have hpre : ∀ q ∈ b.pre V, a.tmps[q.1]? = some q.2 := fun q hq => by
            obtain ⟨q0, hq0, rfl⟩ := List.mem_map.1 hq
            obtain ⟨b', hb', e1, e2, h5⟩ := hdp q0 hq0
            have := (hb.bits b' hb' h5).1
            rw [e1, e2] at this; exact this
          refine hstep.get b hbm I1 V ((Bs.filter fun b => ls.getD b.i false).map (fun b => (b.d, V b.i))) (wH ls wi H0 H1) o hb.le ho (AllB.mk fun b' hb' hx => ?_) _ (fun v I2 hI2 hp a' w' s' m' => ⟨?_, ih (ls.setIfInBounds b.i true) a' w' I2 (fun j => if j = b.i then v else V j) (by simp [hs]) (fun j hj => ?_) (by omega) ⟨hb.le.trans hI2, ?_, ?_, fun b' hb' hx => ?_⟩⟩) a w (St.append (St.of_all hb.st.size hb.st.defers hpre) (St.append hb.st (St.of_all hb.st.size hb.st.defers hX))) hb.mem
          · obtain ⟨q, hq, e⟩ := List.any_eq_true.1 hx
            obtain ⟨b2, hb2, e1, _, h5⟩ := hdp q hq
            have : b2 = b' := hui b2 hb2 b' hb' (by rw [e1]; simpa using e)
            subst this
            exact (hb.bits b2 hb2 h5).2
          · unfold wH at m'
            cases hwi : wi with
            | none => rw [hwi] at m'; exact hC I2 w' (hb.le.trans hI2) m'
            | some k =>
              rw [hwi] at m'
              simp only at m'
              split at m'
              · exact hC1 k hwi I2 w' (hb.le.trans hI2) m'
              · exact hC I2 w' (hb.le.trans hI2) m'
          · rw [getD_set h3]; split
            · rfl
            · exact hle j hj
          · have e : wH (ls.setIfInBounds b.i true) wi H0 H1 = wH ls wi H0 H1 := by
              unfold wH
              cases hwi : wi with
              | none => rfl
              | some k => simp only; rw [getD_set h3, if_neg ((hwlt k hwi).2 b hbm)]
            rw [e]; exact m'
          · refine ⟨s'.size, s'.defers, fun j u hj => s'.get j u ?_⟩
            have hjd : ∀ b' ∈ Bs, j ≠ b'.d := fun b' hb' e => by rw [e, hfr.get b' hb'] at hj; cases hj
            simp only [look]
            have h6 : Nat.beq j b.d = false := by
              cases h : Nat.beq j b.d with
              | false => rfl
              | true => exact absurd (Nat.eq_of_beq_eq_true h) (hjd b hbm)
            rw [h6]
            simp only [cond_false]
            rw [look_or, look_or, hj]
            cases hq : look (b.pre V) j with
            | none => rfl
            | some u2 =>
              obtain ⟨q, hq1, hq2, _⟩ := look_mem hq
              obtain ⟨q, hq3, rfl⟩ := List.mem_map.1 hq1
              obtain ⟨b', hb', _, e2, _⟩ := hdp q hq3
              exact absurd (hq2.symm.trans e2.symm) (hjd b' hb')
          · by_cases e : b'.i = b.i
            · have := hui b' hb' b hbm e
              subst this
              refine ⟨?_, by simp only [if_true]; exact hp⟩
              simp only [if_true]
              exact s'.get b'.d v (by simp [look, Nat.beq_refl])
            · rw [getD_set h3, if_neg (fun h => e h.symm)] at hx
              simp only [if_neg e]
              refine ⟨s'.get b'.d _ ?_, hmono.get b' hb' I1 I2 _ hI2 (hb.bits b' hb' hx).2⟩
              simp only [look]
              have h6 : Nat.beq b'.d b.d = false := by
                cases h : Nat.beq b'.d b.d with
                | false => rfl
                | true => exact absurd (congrArg Bit.i (hud b' hb' b hbm (Nat.eq_of_beq_eq_true h))) e
              rw [h6]
              simp only [cond_false]
              refine hxl b' hb' hx _ fun u hu => ?_
              obtain ⟨q, hq1, hq2, hq3⟩ := look_mem hu
              obtain ⟨q, hq4, rfl⟩ := List.mem_map.1 hq1
              obtain ⟨b2, hb2, e1, e2, _⟩ := hdp q hq4
              have : b2 = b' := hud b2 hb2 b' hb' (e2.trans hq2)
              subst this
              rw [← hq3, e1]
        · have hwi : wi = some i := by simpa using h4
          have hne : ∀ b ∈ Bs, i ≠ b.i := fun b hbm e => (hwlt i hwi).2 b hbm e.symm
          have hm0 : Mem E I1 H0 w := by
            have hm := hb.mem
            unfold wH at hm
            rw [hwi] at hm
            simp only [h2, Bool.false_eq_true, if_false] at hm; exact hm
          refine hw i hwi I1 ((Bs.filter fun b => ls.getD b.i false).map (fun b => (b.d, V b.i))) o hb.le ho _ (fun a' w' s' m' => ⟨hC1 i hwi I1 w' hb.le m', ih (ls.setIfInBounds i true) a' w' I1 V (by simp [hs]) (fun j hj => ?_) (by omega) ⟨hb.le, ?_, ?_, fun b' hb' hx => ?_⟩⟩) a w (St.append hb.st (St.of_all hb.st.size hb.st.defers hX)) hm0
          · rw [getD_set h3]; split
            · rfl
            · exact hle j hj
          · unfold wH
            rw [hwi]
            simp only [getD_set h3, if_true]; exact m'
          · exact ⟨s'.size, s'.defers, fun j u hj => s'.get j u (by rw [look_or, hj]; rfl)⟩
          · rw [getD_set h3, if_neg (hne b' hb')] at hx
            refine ⟨s'.get b'.d _ ?_, (hb.bits b' hb' hx).2⟩
            have := hxl b' hb' hx [] (fun u hu => by cases hu)
            exact this
  exact fun a w s m => key fuel listed a w I (fun _ => undef) hsz (fun _ h => h) hfu ⟨ILe.refl _, by
    unfold wH
    split
    · rename_i i; rw [if_neg (by rw [hw0 i rfl]; decide)]; exact m
    · exact m, s, fun b hb h => by rw [hb0 b hb] at h; cases h⟩
end
end Go.Sx

