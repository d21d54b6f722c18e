/- The library of a symbolic run and the walks: merged. -/
import Derived.Test.YtdkjmaoelojpeaaGreatZDuc
import Derived.Ground.NamesProg
import Derived.Ground.SlsfProg
import Derived.Maps.RangeRun
import Derived.Shelf.SlGeneric
import Derived.Shelf.SlSortCmp.NoneTotal
import Derived.Shelf.Small.Strs
import Derived.Shelf.Sort.Plain
import Derived.Test.YtdkjmaoelojpeaaGreatProg
/- Walks, printed by a program out of the code of the functions: each theorem is a contract of one function. -/
namespace Go.Proofs.YtdkjmaoelojpeaaGreat
open Go Go.Sx
set_option linter.all false
set_option maxRecDepth 20000
set_option maxHeartbeats 4000000
instance T.ty_26 : Has (tyK Tryz.prog 26) (false, 1) := ⟨by kernel_rfl⟩
instance T.ty_82 : Has (tyK Tryz.prog 82) (false, 1) := ⟨by kernel_rfl⟩
instance T.zero_3 : Has (zeroK Tryz.prog 3) [.int .i64 0] := ⟨by kernel_rfl⟩
instance T.zero_82 : Has (zeroK Tryz.prog 82) [.int .i64 0] := ⟨by kernel_rfl⟩
theorem deleteFunc_Evt (I : IMap) (v : Value) (l : List Evt) (hl : l.length ≤ 1000000) (f : FuncId) (cs : List Value) (p : Evt → Bool) (hp : ∀ I2, ILe I I2 → ∀ x : Evt, FnV Tryz.prog f ([Value.agg (Day.ch x).toArray] ++ cs).toArray I2 (.bool (p x))) :
    FnD Tryz.prog 55 #[v, .func (.func f) #[] cs.toArray] I (.row v 49 14 l.length (evCh l).flatten) (fun u J => RdS J u (l.filter fun x => !p x)) := by
 refine enter Tryz.func55 Tryz.call55 rfl Tryz.ntmps55 rfl (fun w0 => ?_)
 refine go 10 ?_
 refine o_lendV m0 rfl rfl ((evCh_flat l).flat) (fun I2 hI2 hR => indexFunc_Evt I2 _ l hR f cs p (fun x _ vs hx => by cases hx; exact hp I2 hI2 x)) rfl rfl ?_
 refine go 10 ?_
 refine cb rfl (fun h12 p12 => ?_) (fun h12 p12 => ?_)
 ·refine go 8 ?_
  refine fin1 rfl rfl ?_
  have hall : l.filter (fun x => !p x) = l := by
    rw [List.filter_eq_self]
    intro x hx
    have := idxF_any p l
    rw [show decide (0 ≤ idxF p l) = false from by rw [p12]; rfl] at this
    simpa using List.any_eq_false.1 this.symm x hx
  refine sx_pubrow (l := l) rfl rfl (evCh_flat l).flat (fun J hJ R => ?_)
  exact q_d (by rw [hall]; exact R)
 ·obtain ⟨i0, hi0, hx0, hp0, hn0⟩ : ∃ (i : Nat) (h : i < l.length), idxF p l = (i : Int) ∧ p l[i] = true ∧ ∀ j x, j < i → l[j]? = some x → p x = false := by
    rcases idxF_find p l with ⟨h1, _⟩ | ⟨i, hi, h1, h2⟩
    · exfalso; have := p12; have : -1 ≤ idxF p l := idxF_ge p l; omega
    · rw [List.find?_eq_some_iff_getElem] at h2
      obtain ⟨h3, k, hk, h4, h5⟩ := h2
      obtain ⟨h6, h7⟩ := idxF_pos h1 hi
      exact ⟨i, hi, h1, h6, h7⟩
  refine sx_row (evCh_ukE l) (evCh_len l) (fun h0 _ => by omega) (fun g cap rest hv hR hcap hmax => ?_)
  subst hv
  have hcap1 : l.length ≤ cap := by omega
  refine go 6 ?_
  refine o_v rfl (OV.cast (u := .int .i64 ((i0 + 1 : Nat) : Int)) (v_add rfl rfl ⟨by omega, by omega⟩) (congrArg (Value.int .i64) (by rw [hx0]; omega))) ?_
  refine go 4 ?_
  refine c_loop3 (i0) (i0 + 1) (l) (fun i j m => I)
   (fun i j m => [(0, .slice (some ⟨g, 0, none⟩) l.length cap), (1, .func (.func f) #[] cs.toArray), (5, .int .i64 ((i : Nat) : Int)), (6, .int .i64 ((j : Nat) : Int))])
   (fun i j m => [.blk g 49 (evCh m ++ rest).flatten])
   (fun i j m => Del p l m i j)
   (fun i j m => l.length - j) (Del.start hi0 hp0 hn0) rfl ⟨rfl, rfl, congrArg (fun z : Int => some (Value.int .i64 z)) hx0, rfl, trivial⟩ rfl ?_
  intro i j m hD
  have hml := hD.len
  have hij := hD.le
  have hjl := hD.hj
  refine go 9 ?_
  refine cb rfl (fun h19 p19 => ?_) (fun h19 p19 => ?_)
  ·have hlt : j < l.length := by omega
   have hjm : j < m.length := by omega
   have hat := hD.at_ hlt
   refine go 8 ?_
   refine o_v rfl (v_idx he rfl rfl rfl (j) (by omega) (by omega)) ?_
   refine o_v rfl (v_ldc m0 ((evCh_ukE _).append hR) he rfl (j) (by omega) (evCh_rest hjm)) ?_
   refine go 1 ?_
   refine o_alloc he rfl (fun g7 => ?_)
   refine go 1 ?_
   refine o_stw _ he rfl rfl rfl rfl rfl rfl ?_
   refine go 7 ?_
   refine o_callV (hp _ (ILe.refl _) _) rfl rfl ?_
   refine go 3 ?_
   refine cb rfl (fun h29 p29 => ?_) (fun h29 p29 => ?_)
   ·refine go 5 ?_
    refine o_v rfl (v_idx he rfl rfl rfl (i) (by omega) (by omega)) ?_
    refine go 1 ?_
    refine bring1 ?_
    refine o_stc _ (i) ((evCh_ukE _).append hR) he rfl rfl rfl rfl rfl (by omega) (by simp [evCh_len]; omega) ?_
    refine go 4 ?_
    refine o_v rfl (OV.cast (u := .int .i64 ((i + 1 : Nat) : Int)) (v_add rfl rfl ⟨by omega, by omega⟩) (congrArg (Value.int .i64) (by omega))) ?_
    refine go 6 ?_
    refine o_v rfl (OV.cast (u := .int .i64 ((j + 1 : Nat) : Int)) (v_add rfl rfl ⟨by omega, by omega⟩) (congrArg (Value.int .i64) (by omega))) ?_
    refine go 3 ?_
    refine bring1 ?_
    refine sx_drop ?_
    exact q_next3 (i + 1) (j + 1) (m.set i l[j]) (hD.keep hlt (by simpa [hat] using p29)) (by omega) rfl sb (by rw [← evCh_set' _ _ _ (by omega), hat])
   ·refine go 5 ?_
    refine o_v rfl (OV.cast (u := .int .i64 ((j + 1 : Nat) : Int)) (v_add rfl rfl ⟨by omega, by omega⟩) (congrArg (Value.int .i64) (by omega))) ?_
    refine go 3 ?_
    refine sx_drop ?_
    exact q_next3 (i) (j + 1) (m) (hD.skip hlt (by simpa [hat] using p29)) (by omega) rfl sb rfl
  ·obtain rfl : j = l.length := by omega
   have hfi : m.take i = l.filter fun x => !p x := by have := hD.fst; rwa [List.take_length] at this
   refine go 9 ?_
   refine o_v rfl (v_slice_lo he rfl rfl i rfl (by omega)) ?_
   refine go 1 ?_
   refine o_clear i he he rfl rfl rfl rfl ((evCh_ukE _).append hR) (fun _ => cutA_some (k := 14) (by omega)) (by simp [evCh_len]; omega) ?_
   refine go 6 ?_
   refine o_v rfl (v_slice_hi he rfl rfl i rfl (by omega)) ?_
   refine go 4 ?_
   refine fin1 rfl rfl ?_
   have htk : (evCh m ++ rest).take i = evCh (l.filter fun x => !p x) := by rw [List.take_append_of_le_length (by rw [evCh_len]; omega), ← hfi, evCh, evCh, List.map_take]
   have hll : (l.filter fun x => !p x).length = i := by rw [← hfi, List.length_take]; omega
   rw [htk]
   refine sx_unrow (m := i) (cap := cap) (evCh_ukE _) ((Uk.rep (c := [.int .i64 0, .int .i64 0, .string ⟨#[]⟩, .string ⟨#[]⟩, .string ⟨#[]⟩, .string ⟨#[]⟩, .string ⟨#[]⟩, .string ⟨#[]⟩, .int .i64 0, .int .i64 0, .int .i64 0, .int .i64 0, .int .i64 0, .int .i64 0]) rfl _).append (Uk.drop ((evCh_ukE _).append hR) _)) (by rw [evCh_len, hll]) (by simp [evCh_len]; omega) hmax ?_
   refine sx_pubrow (l := l.filter fun x => !p x) rfl hll.symm (evCh_flat _).flat (fun J hJ R => ?_)
   exact q_d R

theorem afterDay (I : IMap) (x : Evt) (g : Nat) (day : Int) (cg : ICells I g 0 [ci day]) :
    FnV Tryz.prog 57 #[.agg (Day.ch x).toArray, .pointer (some ⟨g, 0, none⟩)] I (.bool (decide (x.day > day))) := by
 refine enter Tryz.func57 Tryz.call57 rfl Tryz.ntmps57 rfl (fun w0 => ?_)
 show SX _ _ _ (argsL [.agg x.cells.toArray, .pointer (some ⟨g, 0, none⟩)] 0) _ _
 refine go 3 ?_
 refine o_box _ rfl rfl rfl (fun g2 => ?_)
 refine go 7 ?_
 refine o_v rfl (v_ldI he rfl (cg 0 _ rfl)) ?_
 refine go 5 ?_
 refine fin1 rfl rfl ?_
 exact q_v rfl

theorem statesIt (I : IMap) (vc : Value) (c : List Kind) (hvc : RdS I vc c) (hsc : SmC c) (v : Value) (l : List Evt) (hv : RdS I v l) (hse : ∀ e ∈ l, SmE e) (g3 g2 : Nat) (c3 : ICells I g3 0 [v]) (c2 : ICells I g2 0 [vc]) :
    FnIt Tryz.prog 109 [.pointer (some ⟨g3, 0, none⟩), .pointer (some ⟨g2, 0, none⟩)] I rdR2 (fun pre x => pre ++ [x] <+: statesF c [] l) (fun pre => pre = statesF c [] l) (fun _ => True) := by
 have hv0 := hv
 obtain ⟨A, c0, rfl, hA, hc, hm⟩ := hv
 intro ly J I1 Hc hI1 hJm hY hJ0
 have hvc := hvc.le hI1
 have hv0 := hv0.le hI1
 have hA := hA.le hI1
 have c3 := c3.le hI1
 have c2 := c2.le hI1
 refine enter Tryz.func109 Tryz.call109 rfl Tryz.ntmps109 rfl (fun w0 => ?_)
 refine go 3 ?_
 refine o_alloc he rfl (fun g4 => ?_)
 refine go 4 ?_
 refine o_v rfl (v_ldI he rfl (c3 0 _ rfl)) ?_
 refine go 5 ?_
 refine c_loop5 (0) ([]) (.slice none 0 0) (I1) (Hc) (fun i st v4 I2 Hc => I2)
  (fun i st v4 I2 Hc => [(0, .func (.yield ly) #[] #[]), (1, .pointer (some ⟨g3, 0, none⟩)), (2, .pointer (some ⟨g2, 0, none⟩)), (4, .pointer (some ⟨g4, 0, none⟩)), (9, .slice A l.length c0), (10, .int .i64 (l.length : Int)), (11, .int .i64 ((i : Nat) : Int))])
  (fun i st v4 I2 Hc => .blk g4 81 [v4] :: Hc)
  (fun i st v4 I2 Hc => i ≤ l.length ∧ ILe I1 I2 ∧ StAt c l i st ∧ J true ((statesF c [] l).take i) I2 Hc ∧ RdS I2 v4 st ∧ SmF st)
  (fun i st v4 I2 Hc => l.length - i) ⟨Nat.zero_le _, ILe.refl _, StAt.zero c l, hJ0, RdS.nil', SmF.nil⟩ rfl sb rfl ?_
 intro i st v4 I2 Hc ⟨hi, hI2, hSt, hJ, hv4, hsf⟩
 have hvc := hvc.le hI2
 have hA := hA.le hI2
 have c2 := c2.le hI2
 refine go 6 ?_
 refine cb rfl (fun h12 p12 => ?_) (fun h12 p12 => ?_)
 ·have hlt : i < l.length := by omega
  obtain ⟨hS1, hS2, hS3, hS4⟩ := hSt.step hlt
  refine go 6 ?_
  obtain ⟨b13, o13, w13, e13, c13, r13⟩ := RdA.at_ hA (i := i) hlt
  obtain rfl := r13
  refine o_v rfl (v_idx he rfl rfl e13 (i) (by omega) hlt) ?_
  refine o_v rfl (v_ldIa he rfl c13 rfl) ?_
  refine go 1 ?_
  refine o_alloc he rfl (fun g6 => ?_)
  refine go 1 ?_
  refine o_stw _ he rfl rfl rfl rfl rfl rfl ?_
  refine go 4 ?_
  refine o_v rfl (v_ldIa he rfl c2 rfl) ?_
  refine go 3 ?_
  refine o_call (flApply _ vc c hvc hsc v4 st hv4 hsf l[i] (hse _ (List.getElem_mem hlt))) rfl rfl (fun v19 I19 j19 q19 => ?_)
  obtain ⟨w19, rfl, hw19⟩ := q19
  refine go 4 ?_
  refine o_alloc he rfl (fun g7 => ?_)
  refine go 1 ?_
  refine o_stw _ he rfl rfl rfl rfl rfl (by simp [RdS.one hw19]) ?_
  refine go 10 ?_
  refine o_yield3 (applyF c st l[i]) hY (hJm _ _ _ _ _ j19 hJ) (⟨_, rfl, hw19⟩) (⟨(statesF c [] l).drop (i + 1), by rw [hS1, List.take_append_drop]⟩) rfl rfl rfl (fun b25 I25 Hc25 j25 hJ25 => ?_)
  have hw19 := hw19.le j25
  refine go 2 ?_
  refine sxb 27 rfl (fun h27 p27 => ?_) (fun h27 p27 => ?_)
  ·refine go 5 ?_
   refine c_true rfl ?_
   refine go 6 ?_
   refine fin0 rfl ?_
   refine sx_drop ?_
   refine sx_drop ?_
   refine sx_drop ?_
   subst p27
   exact q_it false _ hJ25 trivial
  ·refine go 5 ?_
   refine cb rfl (fun h30 p30 => ?_) (fun h30 p30 => ?_)
   ·refine go 6 ?_
    refine fin0 rfl ?_
    refine sx_drop ?_
    refine sx_drop ?_
    refine sx_drop ?_
    subst p27
    exact q_it true _ hJ25 (hS1.trans (hS4 (by simpa using p30)))
   ·subst p27
    have h0 : (applyF c st l[i]).2 = 0 := by simpa using p30
    have hsm := applyF_sm (c := c) hsf (hse _ (List.getElem_mem hlt))
    refine go 5 ?_
    refine bring2 ?_
    refine o_stw _ he rfl rfl rfl rfl rfl (by simp [RdS.one hw19]) ?_
    refine go 8 ?_
    refine bring1 ?_
    refine sx_drop ?_
    refine bring1 ?_
    refine sx_drop ?_
    exact q_next5 (i + 1) ((applyF c st l[i]).1) (w19) (I25) (Hc25) ⟨by omega, (hI2.trans j19).trans j25, hS3 h0, by rw [← hS1]; exact hJ25, hw19, hsm⟩ (by omega) rfl sb rfl
 ·have hil : i = l.length := by omega
  refine go 4 ?_
  refine end0 rfl ?_
  refine sx_drop ?_
  exact q_it true _ hJ (hSt.last (by omega))

theorem statesC (I : IMap) (A : Option Addr) (m k : Nat) (vc : Value) :
    FnI Tryz.prog 84 #[.agg #[vc], .slice A m k] I (fun u J => ∃ g3 g2, u = .func (.func 109) #[] #[.pointer (some ⟨g3, 0, none⟩), .pointer (some ⟨g2, 0, none⟩)] ∧ ICells J g3 0 [.slice A m k] ∧ ICells J g2 0 [vc]) := by
 refine enter Tryz.func84 Tryz.call84 rfl Tryz.ntmps84 rfl (fun w0 => ?_)
 refine go 3 ?_
 refine o_box _ rfl rfl rfl (fun g2 => ?_)
 refine go 1 ?_
 refine o_box _ rfl rfl rfl (fun g3 => ?_)
 refine go 5 ?_
 refine sx_pub (fun Ig3 jg3 cg3 => ?_)
 refine sx_pub (fun Ig2 jg2 cg2 => ?_)
 have cg3 := (cg3).le jg2
 refine o_v rfl (v_makeFunc rfl rfl) ?_
 refine go 4 ?_
 refine fin1 rfl rfl ?_
 exact q_i ⟨_, _, rfl, cg3, cg2⟩

theorem cRun (I : IMap) (vc : Value) (c : List Kind) (hvc : RdS I vc c) (hsc : SmC c) (v : Value) (l : List Evt) (hv : RdS I v l) (hl : l.length ≤ 1000000) (hse : ∀ e ∈ l, SmE e) :
    FnI Tryz.prog 54 #[.agg #[vc], v] I (fun u J => ∃ w, u = .tuple #[.agg #[w], .int .i64 (runF c l).2.1, .int .i64 (runF c l).2.2] ∧ RdS J w (runF c l).1) := by
 refine enter Tryz.func54 Tryz.call54 rfl Tryz.ntmps54 rfl (fun w0 => ?_)
 refine go 3 ?_
 refine o_box _ rfl rfl rfl (fun g2 => ?_)
 refine go 1 ?_
 refine o_alloc he rfl (fun g4 => ?_)
 refine go 1 ?_
 refine o_alloc he rfl (fun g5 => ?_)
 refine go 1 ?_
 refine o_alloc he rfl (fun g6 => ?_)
 refine go 7 ?_
 refine o_callV (catValid _ vc c hvc hsc) rfl rfl ?_
 refine go 3 ?_
 refine cb rfl (fun h13 p13 => ?_) (fun h13 p13 => ?_)
 ·refine go 3 ?_
  refine o_val rfl (v_build (pl := [(0, 1)]) he he rfl rfl) ?_
  refine go 1 ?_
  refine bring2 ?_
  refine o_stw _ he rfl rfl rfl rfl rfl rfl ?_
  refine go 1 ?_
  refine bring2 ?_
  refine o_stw _ he rfl rfl rfl rfl rfl rfl ?_
  refine go 1 ?_
  refine bring2 ?_
  refine o_stw _ he rfl rfl rfl rfl rfl rfl ?_
  refine go 4 ?_
  refine fin3 rfl ⟨_, _, _, rfl, m2, .inr ⟨_, he, rfl, rfl⟩⟩ ⟨_, _, _, rfl, m1, .inl ⟨he, rfl⟩⟩ ⟨_, _, _, rfl, m0, .inl ⟨he, rfl⟩⟩ ?_
  have hr : runF c l = ([], -1, 1) := by unfold runF; rw [if_pos (by simpa using h13)]
  exact q_i ⟨_, by rw [hr], by rw [hr]; exact RdS.nil'⟩
 ·refine go 5 ?_
  refine o_alloc he rfl (fun g7 => ?_)
  refine go 5 ?_
  refine o_alloc he rfl (fun g8 => ?_)
  refine go 1 ?_
  refine o_stw _ he rfl rfl rfl rfl rfl rfl ?_
  refine go 4 ?_
  refine sx_knowI (fun hE5 hf5 => ?_)
  refine d_startH T.mixed ?_
  refine d_tv 0 rfl rfl (by kernel_rfl) rfl (.refl _) rfl (v_ldw m5 he rfl rfl) ?_
  refine d_tv 1 rfl rfl (by kernel_rfl) rfl (.refl _) rfl (v_move rfl) ?_
  refine d_one 2 (by kernel_rfl) rfl ?_
  refine o_call (cSort _ v l hv hl) rfl rfl (fun v17 I17 j17 q17 => ?_)
  have hvc := hvc.le j17
  have q17s := q17
  obtain ⟨A17, k17, rfl, _⟩ := q17s
  refine d_on (fun _ m => m.keepsI (.refl _) (j17) hE5 hf5) ?_
  refine d_one 3 (by kernel_rfl) rfl ?_
  refine o_call (statesC _ A17 _ k17 vc) rfl rfl (fun v18 I18 j18 q18 => ?_)
  have hvc := hvc.le j18
  have q17 := q17.le j18
  obtain ⟨g3, g2, rfl, c3, c2⟩ := q18
  refine d_on (fun _ m => m.keepsI (.refl _) ((j17).trans j18) hE5 hf5) ?_
  refine d_done (by kernel_rfl) ?_
  refine go 2 ?_
  refine bring2 ?_
  refine bring3 ?_
  refine bring4 ?_
  refine bring3 ?_
  refine bring4 ?_
  refine c_range (σ := Value × Int × Value × Int × Int) (ps := [19, 20]) (.slice none 0 0, 0, .slice none 0 0, 0, 0) (fun ⟨v7, i, a, b, e⟩ => [.blk g7 81 [v7], .blk g8 3 [ci i], .blk g4 81 [a], .blk g5 3 [ci b], .blk g6 82 [ci e]]) (fun pre I ⟨v7, i, a, b, e⟩ => i = (pre.length : Nat) ∧ a = .slice none 0 0 ∧ b = 0 ∧ e = 0 ∧ (∀ x ∈ pre, x.2 = 0) ∧ RdS I v7 (lastS [] pre)) (fun pre I ⟨v7, i, a, b, e⟩ cd => cd = .ret ∧ a = .slice none 0 0 ∧ ∃ pr x t, statesF c [] (sortF l) = pr ++ x :: t ∧ (∀ x ∈ pr, x.2 = 0) ∧ x.2 ≠ 0 ∧ b = (pr.length : Nat) ∧ e = x.2) rfl Tryz.call109 (statesIt _ vc c hvc hsc _ (sortF l) q17 (fun e he => hse e (sortF_mem.1 he)) g3 g2 c3 c2) (fun I vs x h => by obtain ⟨w, rfl, _⟩ := h; rfl) rfl (fun pre I I' s hI h => by obtain ⟨v7, i, a, b, e⟩ := s; exact ⟨h.1, h.2.1, h.2.2.1, h.2.2.2.1, h.2.2.2.2.1, h.2.2.2.2.2.le hI⟩) (fun _ _ _ _ _ _ h => h) (⟨rfl, rfl, rfl, rfl, (fun _ h => by cases h), RdS.nil'⟩) rfl ?_ ?_ ?_
  ·rintro r E1 pre x vs I1 ⟨v7, i, a, b, e⟩ hI1 ⟨rfl, rfl, rfl, rfl, hok, hv7⟩ ⟨w, rfl, hw⟩ hpf
   obtain ⟨t, ht⟩ := id hpf
   rw [List.append_assoc] at ht
   have hlen := hpf.length_le
   have hsl := states_len c (sortF l) []
   rw [List.length_append, List.length_singleton] at hlen
   rw [sortF_len] at hsl
   refine sx_exp5 ?_
   refine go 3 ?_
   refine o_alloc he rfl (fun g9 => ?_)
   refine go 1 ?_
   refine o_stw _ he rfl rfl rfl rfl rfl (by simp [RdS.one hw]) ?_
   refine go 5 ?_
   refine bring1 ?_
   refine r_begin ?_
   refine go 8 ?_
   refine cb rfl (fun h22 p22 => ?_) (fun h22 p22 => ?_)
   ·refine go 1 ?_
    refine bring7 ?_
    refine bring7 ?_
    refine bring7 ?_
    refine d_start3 T.mixed ?_
    refine d_tv 0 rfl rfl (by kernel_rfl) rfl (.cons _ (.cons _ (.cons _ (.refl _)))) rfl (v_build (pl := [(0, 1)]) he he rfl rfl) ?_
    refine d_tv 1 rfl rfl (by kernel_rfl) rfl (.cons _ (.cons _ (.cons _ (.refl _)))) rfl (v_ld m4 he rfl rfl) ?_
    refine d_tv 2 rfl rfl (by kernel_rfl) rfl (.cons _ (.cons _ (.cons _ (.refl _)))) rfl (v_move rfl) ?_
    refine d_one 3 (by kernel_rfl) rfl ?_
    refine o_stw _ he rfl rfl rfl rfl rfl rfl ?_
    refine d_on (fun _ m => m.keeps (.cons _ (.cons _ (.cons _ (.refl _))))) ?_
    refine d_one 4 (by kernel_rfl) rfl ?_
    refine bring1 ?_
    refine o_stw _ he rfl rfl rfl rfl rfl rfl ?_
    refine d_on (fun _ m => m.keeps (.cons _ (.cons _ (.cons _ (.refl _))))) ?_
    refine d_one 5 (by kernel_rfl) rfl ?_
    refine bring2 ?_
    refine o_stw _ he rfl rfl rfl rfl rfl rfl ?_
    refine d_on (fun _ m => m.keeps (.cons _ (.cons _ (.cons _ (.refl _))))) ?_
    refine d_done (by kernel_rfl) ?_
    refine go 4 ?_
    refine bring4 ?_
    refine sx_drop ?_
    refine bring1 ?_
    refine bring2 ?_
    refine bring6 ?_
    refine bring6 ?_
    refine bring6 ?_
    refine bring6 ?_
    exact r_ret ((v7, _, _, _, _)) (hI1) (⟨rfl, rfl, pre, x, t, ht.symm, hok, p22, rfl, rfl⟩) rfl
   ·refine go 6 ?_
    refine bring3 ?_
    refine o_stw _ he rfl rfl rfl rfl rfl (by simp [RdS.one hw]) ?_
    refine go 6 ?_
    refine bring4 ?_
    refine o_stw _ he rfl rfl rfl rfl rfl rfl ?_
    refine go 2 ?_
    refine bring3 ?_
    refine sx_drop ?_
    refine bring6 ?_
    refine bring6 ?_
    refine bring6 ?_
    refine bring3 ?_
    refine bring4 ?_
    refine bring6 ?_
    refine bring6 ?_
    exact r_next ((w, _, _, 0, 0)) (hI1) (⟨by simp only [List.length_append, List.length_singleton]; push_cast; trivial, rfl, rfl, rfl, (fun y hy => (List.mem_append.1 hy).elim (hok y) (fun h => by rw [List.mem_singleton.1 h]; exact p22)), (by simpa [lastS] using hw)⟩) rfl
  ·rintro D pre I1 ⟨v7, i, a, b, e⟩ hI1 hfull ⟨rfl, rfl, rfl, rfl, hok, hv7⟩
   refine sx_app5 ?_
   refine go 6 ?_
   refine bring3 ?_
   refine o_stw _ he rfl rfl rfl rfl rfl (by simp [RdS.one hv7]) ?_
   refine go 1 ?_
   refine bring4 ?_
   refine o_stw _ he rfl rfl rfl rfl rfl rfl ?_
   refine go 1 ?_
   refine bring5 ?_
   refine o_stw _ he rfl rfl rfl rfl rfl rfl ?_
   refine go 3 ?_
   refine bring3 ?_
   refine q_mark ?_
   refine fin3 rfl ⟨_, _, _, rfl, m3, .inr ⟨_, he, rfl, rfl⟩⟩ ⟨_, _, _, rfl, m2, .inl ⟨he, rfl⟩⟩ ⟨_, _, _, rfl, m1, .inl ⟨he, rfl⟩⟩ ?_
   have hr : runF c l = (lastS [] pre, -1, 0) := by unfold runF; rw [if_neg (by simp [p13]), run_full _ _ _ (hfull ▸ hok), ← hfull]
   exact q_i ⟨_, by rw [hr], by rw [hr]; exact hv7⟩
  ·rintro D pre I1 ⟨v7, i, a, b, e⟩ cd hI1 hpart ⟨rfl, rfl, pr, x, t, ht, hok, hx, rfl, rfl⟩
   refine sx_app5 ?_
   refine go 3 ?_
   refine q_mark ?_
   refine fin3 rfl ⟨_, _, _, rfl, m3, .inr ⟨_, he, rfl, rfl⟩⟩ ⟨_, _, _, rfl, m4, .inl ⟨he, rfl⟩⟩ ⟨_, _, _, rfl, m5, .inl ⟨he, rfl⟩⟩ ?_
   have hr : runF c l = ([], ((pr.length : Nat) : Int), x.2) := by unfold runF; rw [if_neg (by simp [p13]), run_stop _ _ _ pr t x ht hok hx]; simp
   exact q_i ⟨_, by rw [hr], by rw [hr]; exact RdS.nil'⟩

theorem cAt (I : IMap) (vc : Value) (c : List Kind) (hvc : RdS I vc c) (hsc : SmC c) (v : Value) (l : List Evt) (hv : RdS I v l) (hl : l.length ≤ 1000000) (hse : ∀ e ∈ l, SmE e) (day : Int) :
    FnI Tryz.prog 38 #[.agg #[vc], v, .int .i64 day] I (fun u J => ∃ w, u = .tuple #[.agg #[w], .int .i64 (atF11 c l day).2.1, .int .i64 (atF11 c l day).2.2] ∧ RdS J w (atF11 c l day).1) := by
 refine enter Tryz.func38 Tryz.call38 rfl Tryz.ntmps38 rfl (fun w0 => ?_)
 refine go 3 ?_
 refine o_box _ rfl rfl rfl (fun g3 => ?_)
 refine go 1 ?_
 refine o_box _ rfl rfl rfl (fun g5 => ?_)
 refine go 1 ?_
 refine o_alloc he rfl (fun g6 => ?_)
 refine go 5 ?_
 refine bring1 ?_
 refine sx_pub (fun Ig5 jg5 cg5 => ?_)
 have hvc := hvc.le jg5
 have hv := hv.le jg5
 refine sx_knowI (fun hE1 hf1 => ?_)
 refine d_start1 T.mixed ?_
 refine d_tv 0 rfl rfl (by kernel_rfl) rfl (.cons _ (.refl _)) rfl (v_ldw m0 he rfl rfl) ?_
 refine d_tv 1 rfl rfl (by kernel_rfl) rfl (.cons _ (.refl _)) rfl (v_move rfl) ?_
 refine d_tv 3 rfl rfl (by kernel_rfl) rfl (.cons _ (.refl _)) rfl (v_makeFunc rfl rfl) ?_
 refine d_one 2 (by kernel_rfl) rfl ?_
 refine o_callX0 (clone_Evt _ v l hv hl) rfl rfl (fun v11 s11 q11 => ?_)
 obtain ⟨xss, rfl, hx⟩ := q11
 obtain rfl := evCh_of hx
 refine d_on (fun _ m => m.keeps (.cons _ (.cons _ (.refl _)))) ?_
 refine d_one 4 (by kernel_rfl) rfl ?_
 refine o_callD (deleteFunc_Evt _ _ l hl 57 [.pointer (some ⟨g5, 0, none⟩)] (fun x => decide (x.day > day)) (fun I2 hI2 x => afterDay I2 x g5 day (cg5.le hI2))) rfl rfl (fun v13 I13 j13 q13 => ?_)
 have hvc := hvc.le j13
 refine d_on (fun _ m => m.keepsI (.cons _ (.refl _)) (j13) hE1 hf1) ?_
 refine d_one 5 (by kernel_rfl) rfl ?_
 refine o_call (cRun _ vc c hvc hsc _ (l.filter fun e => !decide (e.day > day)) q13 (Nat.le_trans (List.length_filter_le _ _) hl) (fun e he => hse e (List.mem_filter.1 he).1)) rfl rfl (fun v14 I14 j14 q14 => ?_)
 obtain ⟨w14, rfl, hw14⟩ := q14
 refine d_on (fun _ m => m.keepsI (.cons _ (.refl _)) ((j13).trans j14) hE1 hf1) ?_
 refine d_t 6 rfl rfl (by kernel_rfl) rfl (fun _ m => m.keepsI (.cons _ (.refl _)) ((j13).trans j14) hE1 hf1) (y_v rfl (v_extract rfl rfl)) ?_
 refine d_t 7 rfl rfl (by kernel_rfl) rfl (fun _ m => m.keepsI (.cons _ (.refl _)) ((j13).trans j14) hE1 hf1) (y_v rfl (v_extract rfl rfl)) ?_
 refine d_t 8 rfl rfl (by kernel_rfl) rfl (fun _ m => m.keepsI (.cons _ (.refl _)) ((j13).trans j14) hE1 hf1) (y_v rfl (v_extract rfl rfl)) ?_
 refine d_one 9 (by kernel_rfl) rfl ?_
 refine o_stw _ he rfl rfl rfl rfl rfl (by simp [RdS.one hw14]) ?_
 refine d_on (fun _ m => m.keepsI (.cons _ (.refl _)) ((j13).trans j14) hE1 hf1) ?_
 refine d_t 10 rfl rfl (by kernel_rfl) rfl (fun _ m => m.keepsI (.cons _ (.refl _)) ((j13).trans j14) hE1 hf1) (y_v rfl (v_assign rfl)) ?_
 refine d_t 11 rfl rfl (by kernel_rfl) rfl (fun _ m => m.keepsI (.cons _ (.refl _)) ((j13).trans j14) hE1 hf1) (y_v rfl (v_assign rfl)) ?_
 refine d_done (by kernel_rfl) ?_
 refine go 2 ?_
 refine fin3 rfl ⟨_, _, _, rfl, m0, .inr ⟨_, he, rfl, rfl⟩⟩ rfl rfl ?_
 exact q_i ⟨_, rfl, hw14⟩

end Go.Proofs.YtdkjmaoelojpeaaGreat

/- Walks, printed by a program out of the code of the functions: each theorem is a contract of one function. -/
namespace Go.Proofs.YtdkjmaoelojpeaaGreat
open Go Go.Sx
set_option linter.all false
set_option maxRecDepth 20000
set_option maxHeartbeats 4000000
theorem ref09Ivl (I : IMap) (x : Ivl) :
    FnV Tryz.prog 176 #[.agg x.cells.toArray] I (.bool (ivlR x)) := by
 refine enter Tryz.func176 Tryz.call176 rfl Tryz.ntmps176 rfl (fun w0 => ?_)
 refine go 3 ?_
 refine o_box _ rfl rfl rfl (fun g1 => ?_)
 refine go 9 ?_
 refine sxb 6 rfl (fun h6 p6 => ?_) (fun h6 p6 => ?_)
 ·refine go 7 ?_
  refine sxb 13 rfl (fun h13 p13 => ?_) (fun h13 p13 => ?_)
  ·refine go 8 ?_
   refine fin1 rfl rfl ?_
   exact q_v (congrArg Value.bool (by simp only [ivlR, h6, h13, bS]))
  ·refine go 8 ?_
   refine fin1 rfl rfl ?_
   exact q_v (congrArg Value.bool (by simp only [ivlR, h6, h13, bS]))
 ·refine go 15 ?_
  refine fin1 rfl rfl ?_
  exact q_v (congrArg Value.bool (by simp only [ivlR, h6, bS]))

theorem ref09Use (I : IMap) (x : Use) :
    FnV Tryz.prog 147 #[.agg x.cells.toArray] I (.bool (useR x)) := by
 refine enter Tryz.func147 Tryz.call147 rfl Tryz.ntmps147 rfl (fun w0 => ?_)
 refine go 3 ?_
 refine o_box _ rfl rfl rfl (fun g1 => ?_)
 refine go 6 ?_
 refine o_v rfl (v_ldp (x.km.cells) m0 he rfl rfl rfl) ?_
 refine go 1 ?_
 refine o_callV (ref09Ivl _ x.km) rfl rfl ?_
 refine go 1 ?_
 refine sxb 6 rfl (fun h6 p6 => ?_) (fun h6 p6 => ?_)
 ·refine go 1 ?_
  refine o_cons (o_yes rfl rfl h6 (o_val rfl (v_ldp (x.cycles.cells) m0 he rfl rfl rfl) ?_))
  refine go 1 ?_
  refine o_yes rfl rfl h6 (o_callV (ref09Ivl _ x.cycles) rfl rfl ?_)
  refine go 2 ?_
  refine sxb 11 rfl (fun h11 p11 => ?_) (fun h11 p11 => ?_)
  ·refine go 1 ?_
   refine o_cons (o_yes rfl rfl h11 (o_val rfl (v_ldp (x.load.cells) m0 he rfl rfl rfl) ?_))
   refine go 1 ?_
   refine o_yes rfl rfl h11 (o_callV (ref09Ivl _ x.load) rfl rfl ?_)
   refine go 5 ?_
   refine fin1 rfl rfl ?_
   exact q_v (congrArg Value.bool (by simp only [useR, h6, h11, bS]))
  ·refine go 8 ?_
   refine fin1 rfl rfl ?_
   exact q_v (congrArg Value.bool (by simp only [useR, h6, h11, bS]))
 ·refine go 13 ?_
  refine fin1 rfl rfl ?_
  exact q_v (congrArg Value.bool (by simp only [useR, h6, bS]))

theorem ref09Valid (I : IMap) (e : Evt) (hs : SmE e) :
    FnV Tryz.prog 123 #[.agg e.cells.toArray] I (.bool (validE e)) := by
 refine enter Tryz.func123 Tryz.call123 rfl Tryz.ntmps123 rfl (fun w0 => ?_)
 refine go 3 ?_
 refine o_box _ rfl rfl rfl (fun g1 => ?_)
 refine go 5 ?_
 refine c_cut (I' := I) (L' := [(1, .pointer (some ⟨g1, 0, none⟩)), (28, .bool (evBadR e))]) (H' := [.blk g1 49 e.cells]) ?_ ?_
 ·refine go 5 ?_
  refine sxb 8 rfl (fun h8 p8 => ?_) (fun h8 p8 => ?_)
  ·refine go 22 ?_
   exact q_cut ⟨rfl, (congrArg (fun b => some (Value.bool b)) (by simp only [evBadR, h8, bS])), trivial⟩ rfl rfl
  ·refine go 5 ?_
   refine sxb 13 rfl (fun h13 p13 => ?_) (fun h13 p13 => ?_)
   ·refine go 17 ?_
    exact q_cut ⟨rfl, (congrArg (fun b => some (Value.bool b)) (by simp only [evBadR, h8, h13, bS])), trivial⟩ rfl rfl
   ·refine go 5 ?_
    refine sxb 18 rfl (fun h18 p18 => ?_) (fun h18 p18 => ?_)
    ·refine go 12 ?_
     exact q_cut ⟨rfl, (congrArg (fun b => some (Value.bool b)) (by simp only [evBadR, h8, h13, h18, bS])), trivial⟩ rfl rfl
    ·refine go 5 ?_
     refine sxb 23 rfl (fun h23 p23 => ?_) (fun h23 p23 => ?_)
     ·refine go 7 ?_
      exact q_cut ⟨rfl, (congrArg (fun b => some (Value.bool b)) (by simp only [evBadR, h8, h13, h18, h23, bS])), trivial⟩ rfl rfl
     ·refine go 3 ?_
      refine o_yes rfl rfl h23 (o_callV (name05 _ _ hs.1) rfl rfl ?_)
      refine go 4 ?_
      exact q_cut ⟨rfl, (congrArg (fun b => some (Value.bool b)) (by simp only [evBadR, h8, h13, h18, h23, bS])), trivial⟩ rfl rfl
 ·refine cb rfl (fun h28 p28 => ?_) (fun h28 p28 => ?_)
  ·refine go 7 ?_
   refine fin1 rfl rfl ?_
   exact q_v (congrArg Value.bool (by rw [← validER_eq]; simp only [validER, h28]; rfl))
  ·refine go 11 ?_
   refine o_val rfl (v_build (pl := [(0, 1), (1, 1), (2, 1), (3, 1), (4, 1), (5, 1), (6, 1), (7, 1), (8, 6)]) he he rfl rfl) ?_
   refine go 1 ?_
   refine o_alloc he rfl (fun g3 => ?_)
   refine go 1 ?_
   refine o_stw _ he rfl rfl rfl rfl rfl rfl ?_
   refine go 8 ?_
   refine c_cut (I' := I) (L' := [(1, .pointer (some ⟨g1, 0, none⟩)), (3, .pointer (some ⟨g3, 0, none⟩)), (4, .bool (goodR e))]) (H' := [.blk g3 49 (keepR e).cells, .blk g1 49 e.cells]) ?_ ?_
   ·refine go 13 ?_
    refine cb rfl (fun h38 p38 => ?_) (fun h38 p38 => ?_)
    ·refine go 6 ?_
     refine o_st1 he rfl rfl rfl rfl ?_
     refine go 6 ?_
     refine o_callV (name05 _ _ hs.2.1) rfl rfl ?_
     refine go 4 ?_
     exact q_cut ⟨rfl, rfl, (congrArg (fun b => some (Value.bool b)) (by simp only [goodR, p28, p38, h28, h38, Int.reduceEq, reduceIte, if_true, if_false, decide_true, decide_false, bS])), trivial⟩ (by rw [keepR, if_pos p38]; rfl) rfl
    ·refine go 6 ?_
     refine cb rfl (fun h46 p46 => ?_) (fun h46 p46 => ?_)
     ·refine go 6 ?_
      refine o_st1 he rfl rfl rfl rfl ?_
      refine go 8 ?_
      refine o_st1 he rfl rfl rfl rfl ?_
      refine go 6 ?_
      refine o_callV (name05 _ _ hs.2.2.1) rfl rfl ?_
      refine go 1 ?_
      refine sxb 57 rfl (fun h57 p57 => ?_) (fun h57 p57 => ?_)
      ·refine go 3 ?_
       refine o_yes rfl rfl h57 (o_callV (name05 _ _ hs.2.2.2.1) rfl rfl ?_)
       refine go 2 ?_
       refine sxb 62 rfl (fun h62 p62 => ?_) (fun h62 p62 => ?_)
       ·refine go 10 ?_
        exact q_cut ⟨rfl, rfl, (congrArg (fun b => some (Value.bool b)) (by simp only [goodR, p28, p38, p46, p57, p62, h28, h38, h46, h57, h62, Int.reduceEq, reduceIte, if_true, if_false, decide_true, decide_false, bS])), trivial⟩ (by rw [keepR, if_neg p38, if_pos p46]; rfl) rfl
       ·refine go 10 ?_
        exact q_cut ⟨rfl, rfl, (congrArg (fun b => some (Value.bool b)) (by simp only [goodR, p28, p38, p46, p57, p62, h28, h38, h46, h57, h62, Int.reduceEq, reduceIte, if_true, if_false, decide_true, decide_false, bS])), trivial⟩ (by rw [keepR, if_neg p38, if_pos p46]; rfl) rfl
      ·refine go 15 ?_
       exact q_cut ⟨rfl, rfl, (congrArg (fun b => some (Value.bool b)) (by simp only [goodR, p28, p38, p46, p57, h28, h38, h46, h57, Int.reduceEq, reduceIte, if_true, if_false, decide_true, decide_false, bS])), trivial⟩ (by rw [keepR, if_neg p38, if_pos p46]; rfl) rfl
     ·refine go 6 ?_
      refine cb rfl (fun h69 p69 => ?_) (fun h69 p69 => ?_)
      ·refine go 3 ?_
       refine o_v rfl (v_ldp (e.use.cells) m1 he rfl rfl rfl) ?_
       refine go 2 ?_
       refine o_st _ _ he rfl rfl rfl rfl rfl rfl rfl ?_
       refine go 4 ?_
       refine o_v rfl (v_ldp (e.use.cells) m1 he rfl rfl rfl) ?_
       refine go 1 ?_
       refine o_callV (ref09Use _ e.use) rfl rfl ?_
       refine go 4 ?_
       exact q_cut ⟨rfl, rfl, (congrArg (fun b => some (Value.bool b)) (by simp only [goodR, p28, p38, p46, p69, h28, h38, h46, h69, Int.reduceEq, reduceIte, if_true, if_false, decide_true, decide_false, bS])), trivial⟩ (by rw [keepR, if_neg p38, if_neg p46, if_pos p69]; rfl) rfl
      ·refine go 6 ?_
       refine cb rfl (fun h77 p77 => ?_) (fun h77 p77 => ?_)
       ·refine go 6 ?_
        refine o_st1 he rfl rfl rfl rfl ?_
        refine go 8 ?_
        refine o_st1 he rfl rfl rfl rfl ?_
        refine go 6 ?_
        refine o_callV (name05 _ _ hs.2.2.2.2.1) rfl rfl ?_
        refine go 1 ?_
        refine sxb 88 rfl (fun h88 p88 => ?_) (fun h88 p88 => ?_)
        ·refine go 6 ?_
         refine sxb 94 rfl (fun h94 p94 => ?_) (fun h94 p94 => ?_)
         ·refine go 9 ?_
          exact q_cut ⟨rfl, rfl, (congrArg (fun b => some (Value.bool b)) (by simp only [goodR, p28, p38, p46, p69, p77, p88, p94, h28, h38, h46, h69, h77, h88, h94, Int.reduceEq, reduceIte, if_true, if_false, decide_true, decide_false, bS])), trivial⟩ (by rw [keepR, if_neg p38, if_neg p46, if_neg p69, if_pos p77]; rfl) rfl
         ·refine go 9 ?_
          exact q_cut ⟨rfl, rfl, (congrArg (fun b => some (Value.bool b)) (by simp only [goodR, p28, p38, p46, p69, p77, p88, p94, h28, h38, h46, h69, h77, h88, h94, Int.reduceEq, reduceIte, if_true, if_false, decide_true, decide_false, bS])), trivial⟩ (by rw [keepR, if_neg p38, if_neg p46, if_neg p69, if_pos p77]; rfl) rfl
        ·refine go 15 ?_
         exact q_cut ⟨rfl, rfl, (congrArg (fun b => some (Value.bool b)) (by simp only [goodR, p28, p38, p46, p69, p77, p88, h28, h38, h46, h69, h77, h88, Int.reduceEq, reduceIte, if_true, if_false, decide_true, decide_false, bS])), trivial⟩ (by rw [keepR, if_neg p38, if_neg p46, if_neg p69, if_pos p77]; rfl) rfl
       ·refine go 3 ?_
        exact q_cut ⟨rfl, rfl, (congrArg (fun b => some (Value.bool b)) (by simp only [goodR, p28, p38, p46, p69, p77, h28, h38, h46, h69, h77, Int.reduceEq, reduceIte, if_true, if_false, decide_true, decide_false, bS])), trivial⟩ (by rw [keepR, if_neg p38, if_neg p46, if_neg p69, if_neg p77]; rfl) rfl
   ·refine go 4 ?_
    refine sxb 101 rfl (fun h101 p101 => ?_) (fun h101 p101 => ?_)
    ·refine go 2 ?_
     refine o_cons (o_yes rfl rfl h101 (o_val rfl (v_steql T.eqg_49 (eqS_Evt (keepR e) e) rfl rfl) ?_))
     refine go 5 ?_
     refine fin1 rfl rfl ?_
     exact q_v (congrArg Value.bool (by rw [← validER_eq]; simp only [validER, h28, h101, bS]))
    ·refine go 8 ?_
     refine fin1 rfl rfl ?_
     exact q_v (congrArg Value.bool (by rw [← validER_eq]; simp only [validER, h28, h101, bS]))

theorem ref08get (I : IMap) (v : Value) (l : List Kind) (hv : RdS I v l) (k s : ByteArray) :
    FnE Tryz.prog 175 #[.agg #[v], .string k, .string s] I (SlotIs I (slotF l k s)) := by
 refine enter Tryz.func175 Tryz.call175 rfl Tryz.ntmps175 rfl (fun w0 => ?_)
 refine go 3 ?_
 refine o_box _ rfl rfl rfl (fun g3 => ?_)
 refine go 1 ?_
 refine o_alloc he rfl (fun g6 => ?_)
 refine go 8 ?_
 refine o_callE (refFind I _ l hv k) rfl rfl (fun v14 q14 => ?_)
 obtain ⟨vs, rfl, ss, rfl, hsl⟩ := q14
 obtain ⟨A, c0, rfl, hA, hc, hm⟩ := hsl
 refine go 4 ?_
 refine o_alloc he rfl (fun g8 => ?_)
 refine go 1 ?_
 refine o_stw _ he rfl rfl rfl rfl rfl (by rfl) ?_
 refine go 10 ?_
 refine bring2 ?_
 refine sx_drop ?_
 refine c_loop (α := Nat) 0 (fun i => I)
  (fun i => [(2, .string s), (6, .pointer (some ⟨g6, 0, none⟩)), (8, .pointer (some ⟨g8, 0, none⟩)), (10, .int .i64 ((i : Nat) : Int))])
  (fun i => [.blk g8 95 (((findK l k).getD zKind).cells (.slice A ((findK l k).getD zKind).slots.length c0)), .blk g6 97 [.string ⟨#[]⟩, .slice none 0 0, .int .i64 0]])
  (fun i => i ≤ ((findK l k).getD zKind).slots.length ∧ ∀ j x, j < i → ((findK l k).getD zKind).slots[j]? = some x → (fun x => decide (Slot.name x = s)) x = false)
  (fun i => ((findK l k).getD zKind).slots.length - i) ⟨Nat.zero_le _, fun j x hj => absurd hj (Nat.not_lt_zero j)⟩ rfl sb rfl ?_
 intro i ⟨hi, hn⟩
 refine go 10 ?_
 refine cb rfl (fun h21 p21 => ?_) (fun h21 p21 => ?_)
 ·have hlt : i < ((findK l k).getD zKind).slots.length := by omega
  refine go 9 ?_
  obtain ⟨b27, o27, w27, e27, c27, r27⟩ := RdA.at_ hA (i := i) hlt
  obtain ⟨q27, rfl, B27, d27, rfl, hB27, hd27, hm27⟩ := r27
  refine o_v rfl (v_idx he rfl rfl e27 (i) (by omega) hlt) ?_
  refine go 1 ?_
  refine o_v rfl (v_ldI he rfl (c27 0 _ rfl)) ?_
  refine go 4 ?_
  refine cb rfl (fun h31 p31 => ?_) (fun h31 p31 => ?_)
  ·refine go 5 ?_
   obtain ⟨b35, o35, w35, e35, c35, r35⟩ := RdA.at_ hA (i := i) hlt
   obtain ⟨q35, rfl, B35, d35, rfl, hB35, hd35, hm35⟩ := r35
   refine o_v rfl (v_idx he rfl rfl e35 (i) (by omega) hlt) ?_
   refine o_v rfl (v_ldIa he rfl c35 rfl) ?_
   refine go 1 ?_
   refine bring1 ?_
   refine o_stw _ he rfl rfl rfl rfl rfl rfl ?_
   refine go 9 ?_
   refine fin2 rfl ⟨_, _, _, rfl, m0, .inr ⟨_, he, rfl, rfl⟩⟩ rfl ?_
   exact q_e (SlotIs.of (find_at (p := fun x => decide (Slot.name x = s)) hlt h31 hn) ⟨_, rfl, B35, d35, rfl, hB35, hd35, hm35⟩)
  ·refine go 9 ?_
   exact q_next (i + 1) ⟨by omega, idx_next (p := fun x => decide (Slot.name x = s)) hn hlt h31⟩ (by omega) rfl sb rfl
 ·refine go 8 ?_
  refine o_val rfl (v_build (pl := [(0, 1), (1, 1), (2, 1)]) he he rfl rfl) ?_
  refine go 1 ?_
  refine bring1 ?_
  refine o_stw _ he rfl rfl rfl rfl rfl rfl ?_
  refine go 4 ?_
  refine fin2 rfl ⟨_, _, _, rfl, m0, .inr ⟨_, he, rfl, rfl⟩⟩ rfl ?_
  exact q_e (SlotIs.none (find_no (p := fun x => decide (Slot.name x = s)) (fun j x hj => hn j x (by omega))))

theorem ref08Takes (I : IMap) (v : Value) (l : List Kind) (hv : RdS I v l) (k s p : ByteArray) :
    FnV Tryz.prog 146 #[.agg #[v], .string k, .string s, .string p] I (.bool (takesF l k s p)) := by
 refine enter Tryz.func146 Tryz.call146 rfl Tryz.ntmps146 rfl (fun w0 => ?_)
 refine go 3 ?_
 refine o_box _ rfl rfl rfl (fun g4 => ?_)
 refine go 9 ?_
 refine o_callE (ref08get I _ l hv k s) rfl rfl (fun v15 q15 => ?_)
 obtain ⟨vs, rfl, ss, rfl, hsl⟩ := q15
 refine go 4 ?_
 refine o_alloc he rfl (fun g9 => ?_)
 refine go 1 ?_
 refine o_stw _ he rfl rfl rfl rfl rfl (by simp [Slot.cells, hsl.one]; exact ⟨rfl, rfl⟩) ?_
 refine go 7 ?_
 refine sxb 19 rfl (fun h19 p19 => ?_) (fun h19 p19 => ?_)
 ·refine go 4 ?_
  refine o_yes rfl rfl h19 (o_callV (in08 I _ _ p hsl) rfl rfl ?_)
  refine go 5 ?_
  refine fin1 rfl rfl ?_
  exact q_v (congrArg Value.bool (by revert h19; unfold takesF; cases slotF l k s <;> simp))
 ·refine go 9 ?_
  refine fin1 rfl rfl ?_
  exact q_v (congrArg Value.bool (by revert h19; unfold takesF; cases slotF l k s <;> simp))

theorem ref10amount (I : IMap) (x : Ivl) :
    FnV Tryz.prog 174 #[.agg x.cells.toArray] I (.bool (lifeOk x)) := by
 refine enter Tryz.func174 Tryz.call174 rfl Tryz.ntmps174 rfl (fun w0 => ?_)
 refine go 3 ?_
 refine o_box _ rfl rfl rfl (fun g1 => ?_)
 refine go 9 ?_
 refine sxb 6 rfl (fun h6 p6 => ?_) (fun h6 p6 => ?_)
 ·refine go 7 ?_
  refine sxb 13 rfl (fun h13 p13 => ?_) (fun h13 p13 => ?_)
  ·refine go 8 ?_
   refine fin1 rfl rfl ?_
   exact q_v (congrArg Value.bool (by simp only [lifeOk, h6, h13, bS]))
  ·refine go 8 ?_
   refine fin1 rfl rfl ?_
   exact q_v (congrArg Value.bool (by simp only [lifeOk, h6, h13, bS]))
 ·refine go 15 ?_
  refine fin1 rfl rfl ?_
  exact q_v (congrArg Value.bool (by simp only [lifeOk, h6, bS]))

theorem ref10own (I : IMap) (v : Value) (l : List Kind) (hv : RdS I v l) (p : Part) (D : Option Addr) (d : Nat) (hD : RdS I (.slice D p.props.length d) p.props) (hs : SmP p) :
    FnV Tryz.prog 145 #[.agg #[v], .agg (p.cells (.slice D p.props.length d)).toArray] I (.bool (rightP l p)) := by
 have hDA : RdA I D p.props := (by obtain ⟨_, _, e, h, _⟩ := hD; cases e; exact h)
 have hDl : p.props.length ≤ d ∧ d ≤ 9223372036854775807 := (by obtain ⟨_, _, e, h, h1, h2⟩ := hD; cases e; exact ⟨h1, h2⟩)
 refine enter Tryz.func145 Tryz.call145 rfl Tryz.ntmps145 rfl (fun w0 => ?_)
 refine go 3 ?_
 refine o_box _ rfl rfl rfl (fun g2 => ?_)
 refine go 1 ?_
 refine o_box _ rfl rfl rfl (fun g3 => ?_)
 refine go 9 ?_
 refine o_callE (refFind I _ l hv p.kind) rfl rfl (fun v13 q13 => ?_)
 obtain ⟨vs, rfl, ss, rfl, hsl⟩ := q13
 refine go 4 ?_
 refine o_alloc he rfl (fun g5 => ?_)
 refine go 1 ?_
 refine o_stw _ he rfl rfl rfl rfl rfl (by simp [Kind.cells, hsl.one]; exact ⟨rfl, rfl⟩) ?_
 refine go 5 ?_
 refine c_cut (I' := I) (L' := [(2, .pointer (some ⟨g2, 0, none⟩)), (3, .pointer (some ⟨g3, 0, none⟩)), (46, .bool (ownBadR l p))]) (H' := [.blk g3 89 (p.cells (.slice D p.props.length d)), .blk g2 25 [v]]) ?_ ?_
 ·refine go 4 ?_
  refine sxb 18 rfl (fun h18 p18 => ?_) (fun h18 p18 => ?_)
  ·refine go 30 ?_
   refine sx_drop ?_
   exact q_cut ⟨rfl, rfl, (congrArg (fun b => some (Value.bool b)) (by simp only [ownBadR, h18, bS])), trivial⟩ rfl rfl
  ·refine go 3 ?_
   refine o_yes rfl rfl h18 (o_callV (name05 _ _ hs.1) rfl rfl ?_)
   refine go 3 ?_
   refine sxb 24 rfl (fun h24 p24 => ?_) (fun h24 p24 => ?_)
   ·refine go 24 ?_
    refine sx_drop ?_
    exact q_cut ⟨rfl, rfl, (congrArg (fun b => some (Value.bool b)) (by simp only [ownBadR, h18, h24, bS])), trivial⟩ rfl rfl
   ·refine go 5 ?_
    refine sxb 29 rfl (fun h29 p29 => ?_) (fun h29 p29 => ?_)
    ·refine go 19 ?_
     refine sx_drop ?_
     exact q_cut ⟨rfl, rfl, (congrArg (fun b => some (Value.bool b)) (by simp only [ownBadR, h18, h24, h29, bS])), trivial⟩ rfl rfl
    ·refine go 7 ?_
     refine sxb 36 rfl (fun h36 p36 => ?_) (fun h36 p36 => ?_)
     ·refine go 12 ?_
      refine sx_drop ?_
      exact q_cut ⟨rfl, rfl, (congrArg (fun b => some (Value.bool b)) (by simp only [ownBadR, h18, h24, h29, h36, bS])), trivial⟩ rfl rfl
     ·refine go 5 ?_
      refine sxb 41 rfl (fun h41 p41 => ?_) (fun h41 p41 => ?_)
      ·refine go 7 ?_
       refine sx_drop ?_
       exact q_cut ⟨rfl, rfl, (congrArg (fun b => some (Value.bool b)) (by simp only [ownBadR, h18, h24, h29, h36, h41, bS])), trivial⟩ rfl rfl
      ·refine go 7 ?_
       refine sx_drop ?_
       exact q_cut ⟨rfl, rfl, (congrArg (fun b => some (Value.bool b)) (by simp only [ownBadR, h18, h24, h29, h36, h41, bS])), trivial⟩ rfl rfl
 ·refine cb rfl (fun h46 p46 => ?_) (fun h46 p46 => ?_)
  ·refine go 7 ?_
   refine fin1 rfl rfl ?_
   exact q_v (congrArg Value.bool (by rw [← ownR_eq]; simp only [ownR, h46]; rfl))
  ·refine go 9 ?_
   refine c_loop (α := Nat) 0 (fun i => I)
    (fun i => [(2, .pointer (some ⟨g2, 0, none⟩)), (3, .pointer (some ⟨g3, 0, none⟩)), (7, .int .i64 ((i : Nat) : Int))])
    (fun i => [.blk g3 89 (p.cells (.slice D p.props.length d)), .blk g2 25 [v]])
    (fun i => i ≤ p.props.length ∧ allP propR p.props i = true)
    (fun i => p.props.length - i) ⟨Nat.zero_le _, rfl⟩ rfl sb rfl ?_
   intro i ⟨hi, hn⟩
   refine go 10 ?_
   refine cb rfl (fun h51 p51 => ?_) (fun h51 p51 => ?_)
   ·have hlt : i < p.props.length := by omega
    refine go 9 ?_
    obtain ⟨b57, o57, w57, e57, c57, r57⟩ := RdA.at_ hDA (i := i) hlt
    obtain rfl := r57
    refine o_v rfl (v_idx he rfl rfl e57 (i) (by omega) hlt) ?_
    refine o_v rfl (v_ldIa he rfl c57 rfl) ?_
    refine go 1 ?_
    refine o_alloc he rfl (fun g8 => ?_)
    refine go 1 ?_
    refine o_stw _ he rfl rfl rfl rfl rfl rfl ?_
    refine go 3 ?_
    refine c_cut (I' := I) (L' := [(2, .pointer (some ⟨g2, 0, none⟩)), (3, .pointer (some ⟨g3, 0, none⟩)), (7, .int .i64 ((i : Nat) : Int)), (90, .bool (((!nameRef p.props[i].key || decide (((p.props[i].value.size : Nat) : Int) < 1)) || decide ((200 : Int) < (p.props[i].value.size : Nat))) || notAfter Prp.key (p.props.take i) p.props[i]))]) (H' := [.blk g3 89 (p.cells (.slice D p.props.length d)), .blk g2 25 [v]]) ?_ ?_
    ·refine d_startH T.mixed ?_
     refine d_tv 0 rfl rfl (by kernel_rfl) rfl (.refl _) rfl (v_fieldAddr he rfl) ?_
     refine d_tv 1 rfl rfl (by kernel_rfl) rfl (.refl _) rfl (v_ld m0 he rfl rfl) ?_
     refine d_one 2 (by kernel_rfl) rfl ?_
     refine o_callV (name05 _ _ (hs.2 _ (List.getElem_mem hlt))) rfl rfl ?_
     refine d_on (fun _ m => m.keeps (.refl _)) ?_
     refine d_tv 3 rfl rfl (by kernel_rfl) rfl (.refl _) rfl (v_not rfl) ?_
     refine d_tv 4 rfl rfl (by kernel_rfl) rfl (.refl _) rfl (v_move rfl) ?_
     refine sxb 63 rfl (fun h63 p63 => ?_) (fun h63 p63 => ?_)
     ·refine d_t 5 rfl rfl (by kernel_rfl) rfl (fun _ m => m.keeps (.refl _)) (y_no rfl rfl h63) ?_
      refine d_t 6 rfl rfl (by kernel_rfl) rfl (fun _ m => m.keeps (.refl _)) (y_no rfl rfl h63) ?_
      refine d_t 7 rfl rfl (by kernel_rfl) rfl (fun _ m => m.keeps (.refl _)) (y_no rfl rfl h63) ?_
      refine d_t 8 rfl rfl (by kernel_rfl) rfl (fun _ m => m.keeps (.refl _)) (y_no rfl rfl h63) ?_
      refine d_tv 9 rfl rfl (by kernel_rfl) rfl (.refl _) rfl (v_or_t h63 rfl) ?_
      refine d_tv 10 rfl rfl (by kernel_rfl) rfl (.refl _) rfl (v_move rfl) ?_
      refine d_t 11 rfl rfl (by kernel_rfl) rfl (fun _ m => m.keeps (.refl _)) (y_no rfl rfl rfl) ?_
      refine d_t 12 rfl rfl (by kernel_rfl) rfl (fun _ m => m.keeps (.refl _)) (y_no rfl rfl rfl) ?_
      refine d_t 13 rfl rfl (by kernel_rfl) rfl (fun _ m => m.keeps (.refl _)) (y_no rfl rfl rfl) ?_
      refine d_t 14 rfl rfl (by kernel_rfl) rfl (fun _ m => m.keeps (.refl _)) (y_no rfl rfl rfl) ?_
      refine d_tv 15 rfl rfl (by kernel_rfl) rfl (.refl _) rfl (v_or_t rfl rfl) ?_
      refine d_tv 16 rfl rfl (by kernel_rfl) rfl (.refl _) rfl (v_move rfl) ?_
      refine d_t 17 rfl rfl (by kernel_rfl) rfl (fun _ m => m.keeps (.refl _)) (y_no rfl rfl rfl) ?_
      refine d_t 18 rfl rfl (by kernel_rfl) rfl (fun _ m => m.keeps (.refl _)) (y_no rfl rfl rfl) ?_
      refine d_t 19 rfl rfl (by kernel_rfl) rfl (fun _ m => m.keeps (.refl _)) (y_no rfl rfl rfl) ?_
      refine d_t 20 rfl rfl (by kernel_rfl) rfl (fun _ m => m.keeps (.refl _)) (y_nou rfl rfl) ?_
      refine d_t 21 rfl rfl (by kernel_rfl) rfl (fun _ m => m.keeps (.refl _)) (y_nou rfl rfl) ?_
      refine d_t 22 rfl rfl (by kernel_rfl) rfl (fun _ m => m.keeps (.refl _)) (y_nou rfl rfl) ?_
      refine d_t 23 rfl rfl (by kernel_rfl) rfl (fun _ m => m.keeps (.refl _)) (y_nou rfl rfl) ?_
      refine d_t 24 rfl rfl (by kernel_rfl) rfl (fun _ m => m.keeps (.refl _)) (y_nou rfl rfl) ?_
      refine d_t 25 rfl rfl (by kernel_rfl) rfl (fun _ m => m.keeps (.refl _)) (y_nou rfl rfl) ?_
      refine d_t 26 rfl rfl (by kernel_rfl) rfl (fun _ m => m.keeps (.refl _)) (y_nou rfl rfl) ?_
      refine d_t 27 rfl rfl (by kernel_rfl) rfl (fun _ m => m.keeps (.refl _)) (y_nou rfl rfl) ?_
      refine d_t 28 rfl rfl (by kernel_rfl) rfl (fun _ m => m.keeps (.refl _)) (y_nou rfl rfl) ?_
      refine d_t 29 rfl rfl (by kernel_rfl) rfl (fun _ m => m.keeps (.refl _)) (y_nou rfl rfl) ?_
      refine d_t 30 rfl rfl (by kernel_rfl) rfl (fun _ m => m.keeps (.refl _)) (y_no rfl rfl rfl) ?_
      refine d_tv 31 rfl rfl (by kernel_rfl) rfl (.refl _) rfl (v_or_t rfl rfl) ?_
      refine d_done (by kernel_rfl) ?_
      refine go 1 ?_
      refine sx_drop ?_
      exact q_cut ⟨rfl, rfl, rfl, (congrArg (fun b => some (Value.bool b)) (by first | (simp only [h51, h63, bS]; done) | (simp only [notAfter_at (nm := Prp.key) h0i hlt, h51, h63, bS]; done) | (simp only [notAfter_zero (nm := Prp.key) (l := p.props) h0i, h51, h63, bS]; done))), trivial⟩ rfl rfl
     ·refine d_t 5 rfl rfl (by kernel_rfl) rfl (fun _ m => m.keeps (.refl _)) (y_yes rfl rfl h63 (v_fieldAddr he rfl)) ?_
      refine d_t 6 rfl rfl (by kernel_rfl) rfl (fun _ m => m.keeps (.refl _)) (y_yes rfl rfl h63 (v_ld m0 he rfl rfl)) ?_
      refine d_t 7 rfl rfl (by kernel_rfl) rfl (fun _ m => m.keeps (.refl _)) (y_yes rfl rfl h63 (v_len_str he rfl)) ?_
      refine d_t 8 rfl rfl (by kernel_rfl) rfl (fun _ m => m.keeps (.refl _)) (y_yes rfl rfl h63 (v_lss rfl rfl)) ?_
      refine d_tv 9 rfl rfl (by kernel_rfl) rfl (.refl _) rfl (v_or_f h63 rfl rfl) ?_
      refine d_tv 10 rfl rfl (by kernel_rfl) rfl (.refl _) rfl (v_move rfl) ?_
      refine sxb 69 rfl (fun h69 p69 => ?_) (fun h69 p69 => ?_)
      ·refine d_t 11 rfl rfl (by kernel_rfl) rfl (fun _ m => m.keeps (.refl _)) (y_no rfl rfl h69) ?_
       refine d_t 12 rfl rfl (by kernel_rfl) rfl (fun _ m => m.keeps (.refl _)) (y_no rfl rfl h69) ?_
       refine d_t 13 rfl rfl (by kernel_rfl) rfl (fun _ m => m.keeps (.refl _)) (y_no rfl rfl h69) ?_
       refine d_t 14 rfl rfl (by kernel_rfl) rfl (fun _ m => m.keeps (.refl _)) (y_no rfl rfl h69) ?_
       refine d_tv 15 rfl rfl (by kernel_rfl) rfl (.refl _) rfl (v_or_t h69 rfl) ?_
       refine d_tv 16 rfl rfl (by kernel_rfl) rfl (.refl _) rfl (v_move rfl) ?_
       refine d_t 17 rfl rfl (by kernel_rfl) rfl (fun _ m => m.keeps (.refl _)) (y_no rfl rfl rfl) ?_
       refine d_t 18 rfl rfl (by kernel_rfl) rfl (fun _ m => m.keeps (.refl _)) (y_no rfl rfl rfl) ?_
       refine d_t 19 rfl rfl (by kernel_rfl) rfl (fun _ m => m.keeps (.refl _)) (y_no rfl rfl rfl) ?_
       refine d_t 20 rfl rfl (by kernel_rfl) rfl (fun _ m => m.keeps (.refl _)) (y_nou rfl rfl) ?_
       refine d_t 21 rfl rfl (by kernel_rfl) rfl (fun _ m => m.keeps (.refl _)) (y_nou rfl rfl) ?_
       refine d_t 22 rfl rfl (by kernel_rfl) rfl (fun _ m => m.keeps (.refl _)) (y_nou rfl rfl) ?_
       refine d_t 23 rfl rfl (by kernel_rfl) rfl (fun _ m => m.keeps (.refl _)) (y_nou rfl rfl) ?_
       refine d_t 24 rfl rfl (by kernel_rfl) rfl (fun _ m => m.keeps (.refl _)) (y_nou rfl rfl) ?_
       refine d_t 25 rfl rfl (by kernel_rfl) rfl (fun _ m => m.keeps (.refl _)) (y_nou rfl rfl) ?_
       refine d_t 26 rfl rfl (by kernel_rfl) rfl (fun _ m => m.keeps (.refl _)) (y_nou rfl rfl) ?_
       refine d_t 27 rfl rfl (by kernel_rfl) rfl (fun _ m => m.keeps (.refl _)) (y_nou rfl rfl) ?_
       refine d_t 28 rfl rfl (by kernel_rfl) rfl (fun _ m => m.keeps (.refl _)) (y_nou rfl rfl) ?_
       refine d_t 29 rfl rfl (by kernel_rfl) rfl (fun _ m => m.keeps (.refl _)) (y_nou rfl rfl) ?_
       refine d_t 30 rfl rfl (by kernel_rfl) rfl (fun _ m => m.keeps (.refl _)) (y_no rfl rfl rfl) ?_
       refine d_tv 31 rfl rfl (by kernel_rfl) rfl (.refl _) rfl (v_or_t rfl rfl) ?_
       refine d_done (by kernel_rfl) ?_
       refine go 1 ?_
       refine sx_drop ?_
       exact q_cut ⟨rfl, rfl, rfl, (congrArg (fun b => some (Value.bool b)) (by first | (simp only [h51, h63, h69, bS]; done) | (simp only [notAfter_at (nm := Prp.key) h0i hlt, h51, h63, h69, bS]; done) | (simp only [notAfter_zero (nm := Prp.key) (l := p.props) h0i, h51, h63, h69, bS]; done))), trivial⟩ rfl rfl
      ·refine d_t 11 rfl rfl (by kernel_rfl) rfl (fun _ m => m.keeps (.refl _)) (y_yes rfl rfl h69 (v_fieldAddr he rfl)) ?_
       refine d_t 12 rfl rfl (by kernel_rfl) rfl (fun _ m => m.keeps (.refl _)) (y_yes rfl rfl h69 (v_ld m0 he rfl rfl)) ?_
       refine d_t 13 rfl rfl (by kernel_rfl) rfl (fun _ m => m.keeps (.refl _)) (y_yes rfl rfl h69 (v_len_str he rfl)) ?_
       refine d_t 14 rfl rfl (by kernel_rfl) rfl (fun _ m => m.keeps (.refl _)) (y_yes rfl rfl h69 (v_gtr rfl rfl)) ?_
       refine d_tv 15 rfl rfl (by kernel_rfl) rfl (.refl _) rfl (v_or_f h69 rfl rfl) ?_
       refine d_tv 16 rfl rfl (by kernel_rfl) rfl (.refl _) rfl (v_move rfl) ?_
       refine sxb 75 rfl (fun h75 p75 => ?_) (fun h75 p75 => ?_)
       ·refine d_t 17 rfl rfl (by kernel_rfl) rfl (fun _ m => m.keeps (.refl _)) (y_no rfl rfl h75) ?_
        refine d_t 18 rfl rfl (by kernel_rfl) rfl (fun _ m => m.keeps (.refl _)) (y_no rfl rfl h75) ?_
        refine d_t 19 rfl rfl (by kernel_rfl) rfl (fun _ m => m.keeps (.refl _)) (y_no rfl rfl h75) ?_
        refine d_t 20 rfl rfl (by kernel_rfl) rfl (fun _ m => m.keeps (.refl _)) (y_nou rfl rfl) ?_
        refine d_t 21 rfl rfl (by kernel_rfl) rfl (fun _ m => m.keeps (.refl _)) (y_nou rfl rfl) ?_
        refine d_t 22 rfl rfl (by kernel_rfl) rfl (fun _ m => m.keeps (.refl _)) (y_nou rfl rfl) ?_
        refine d_t 23 rfl rfl (by kernel_rfl) rfl (fun _ m => m.keeps (.refl _)) (y_nou rfl rfl) ?_
        refine d_t 24 rfl rfl (by kernel_rfl) rfl (fun _ m => m.keeps (.refl _)) (y_nou rfl rfl) ?_
        refine d_t 25 rfl rfl (by kernel_rfl) rfl (fun _ m => m.keeps (.refl _)) (y_nou rfl rfl) ?_
        refine d_t 26 rfl rfl (by kernel_rfl) rfl (fun _ m => m.keeps (.refl _)) (y_nou rfl rfl) ?_
        refine d_t 27 rfl rfl (by kernel_rfl) rfl (fun _ m => m.keeps (.refl _)) (y_nou rfl rfl) ?_
        refine d_t 28 rfl rfl (by kernel_rfl) rfl (fun _ m => m.keeps (.refl _)) (y_nou rfl rfl) ?_
        refine d_t 29 rfl rfl (by kernel_rfl) rfl (fun _ m => m.keeps (.refl _)) (y_nou rfl rfl) ?_
        refine d_t 30 rfl rfl (by kernel_rfl) rfl (fun _ m => m.keeps (.refl _)) (y_no rfl rfl h75) ?_
        refine d_tv 31 rfl rfl (by kernel_rfl) rfl (.refl _) rfl (v_or_t h75 rfl) ?_
        refine d_done (by kernel_rfl) ?_
        refine go 1 ?_
        refine sx_drop ?_
        exact q_cut ⟨rfl, rfl, rfl, (congrArg (fun b => some (Value.bool b)) (by first | (simp only [h51, h63, h69, h75, bS]; done) | (simp only [notAfter_at (nm := Prp.key) h0i hlt, h51, h63, h69, h75, bS]; done) | (simp only [notAfter_zero (nm := Prp.key) (l := p.props) h0i, h51, h63, h69, h75, bS]; done))), trivial⟩ rfl rfl
       ·refine d_t 17 rfl rfl (by kernel_rfl) rfl (fun _ m => m.keeps (.refl _)) (y_yes rfl rfl h75 (v_move rfl)) ?_
        refine d_t 18 rfl rfl (by kernel_rfl) rfl (fun _ m => m.keeps (.refl _)) (y_yes rfl rfl h75 (v_gtr rfl rfl)) ?_
        refine d_t 19 rfl rfl (by kernel_rfl) rfl (fun _ m => m.keeps (.refl _)) (y_yes rfl rfl h75 (v_move rfl)) ?_
        refine sxb 78 rfl (fun h78 p78 => ?_) (fun h78 p78 => ?_)
        ·have h0i : 0 < i := by omega
         refine d_t 20 rfl rfl (by kernel_rfl) rfl (fun _ m => m.keeps (.refl _)) (y_yes rfl rfl h78 (v_fieldAddr he rfl)) ?_
         refine d_t 21 rfl rfl (by kernel_rfl) rfl (fun _ m => m.keeps (.refl _)) (y_yes rfl rfl h78 (v_ld m1 he rfl rfl)) ?_
         refine d_t 22 rfl rfl (by kernel_rfl) rfl (fun _ m => m.keeps (.refl _)) (y_yes rfl rfl h78 (v_move rfl)) ?_
         refine d_t 23 rfl rfl (by kernel_rfl) rfl (fun _ m => m.keeps (.refl _)) (y_yes rfl rfl h78 (OV.cast (u := .int .i64 ((i - 1 : Nat) : Int)) (v_sub rfl rfl ⟨by omega, by omega⟩) (congrArg (Value.int .i64) (by omega)))) ?_
         obtain ⟨b83, o83, w83, e83, c83, r83⟩ := RdA.at_ hDA (i := i - 1) (by omega)
         obtain rfl := r83
         refine d_t 24 rfl rfl (by kernel_rfl) rfl (fun _ m => m.keeps (.refl _)) (y_yes rfl rfl h78 (v_idx he rfl rfl e83 (i - 1) (by omega) (by omega))) ?_
         refine d_t 25 rfl rfl (by kernel_rfl) rfl (fun _ m => m.keeps (.refl _)) (y_yes rfl rfl h78 (v_fieldAddr he rfl)) ?_
         refine d_t 26 rfl rfl (by kernel_rfl) rfl (fun _ m => m.keeps (.refl _)) (y_yes rfl rfl h78 (v_ldI he rfl (c83 0 _ rfl))) ?_
         refine d_t 27 rfl rfl (by kernel_rfl) rfl (fun _ m => m.keeps (.refl _)) (y_yes rfl rfl h78 (v_fieldAddr he rfl)) ?_
         refine d_t 28 rfl rfl (by kernel_rfl) rfl (fun _ m => m.keeps (.refl _)) (y_yes rfl rfl h78 (v_ld m0 he rfl rfl)) ?_
         refine d_t 29 rfl rfl (by kernel_rfl) rfl (fun _ m => m.keeps (.refl _)) (y_yes rfl rfl h78 (v_sgeq rfl rfl)) ?_
         refine d_t 30 rfl rfl (by kernel_rfl) rfl (fun _ m => m.keeps (.refl _)) (y_yes rfl rfl h75 (v_and_t h78 rfl rfl)) ?_
         refine d_tv 31 rfl rfl (by kernel_rfl) rfl (.refl _) rfl (v_or_f h75 rfl rfl) ?_
         refine d_done (by kernel_rfl) ?_
         refine go 1 ?_
         refine sx_drop ?_
         exact q_cut ⟨rfl, rfl, rfl, (congrArg (fun b => some (Value.bool b)) (by first | (simp only [h51, h63, h69, h75, h78, bS]; done) | (simp only [notAfter_at (nm := Prp.key) h0i hlt, h51, h63, h69, h75, h78, bS]; done) | (simp only [notAfter_zero (nm := Prp.key) (l := p.props) h0i, h51, h63, h69, h75, h78, bS]; done))), trivial⟩ rfl rfl
        ·have h0i : ¬ 0 < i := by omega
         refine d_t 20 rfl rfl (by kernel_rfl) rfl (fun _ m => m.keeps (.refl _)) (y_no rfl rfl h78) ?_
         refine d_t 21 rfl rfl (by kernel_rfl) rfl (fun _ m => m.keeps (.refl _)) (y_no rfl rfl h78) ?_
         refine d_t 22 rfl rfl (by kernel_rfl) rfl (fun _ m => m.keeps (.refl _)) (y_no rfl rfl h78) ?_
         refine d_t 23 rfl rfl (by kernel_rfl) rfl (fun _ m => m.keeps (.refl _)) (y_no rfl rfl h78) ?_
         refine d_t 24 rfl rfl (by kernel_rfl) rfl (fun _ m => m.keeps (.refl _)) (y_no rfl rfl h78) ?_
         refine d_t 25 rfl rfl (by kernel_rfl) rfl (fun _ m => m.keeps (.refl _)) (y_no rfl rfl h78) ?_
         refine d_t 26 rfl rfl (by kernel_rfl) rfl (fun _ m => m.keeps (.refl _)) (y_no rfl rfl h78) ?_
         refine d_t 27 rfl rfl (by kernel_rfl) rfl (fun _ m => m.keeps (.refl _)) (y_no rfl rfl h78) ?_
         refine d_t 28 rfl rfl (by kernel_rfl) rfl (fun _ m => m.keeps (.refl _)) (y_no rfl rfl h78) ?_
         refine d_t 29 rfl rfl (by kernel_rfl) rfl (fun _ m => m.keeps (.refl _)) (y_no rfl rfl h78) ?_
         refine d_t 30 rfl rfl (by kernel_rfl) rfl (fun _ m => m.keeps (.refl _)) (y_yes rfl rfl h75 (v_and_f h78 rfl)) ?_
         refine d_tv 31 rfl rfl (by kernel_rfl) rfl (.refl _) rfl (v_or_f h75 rfl rfl) ?_
         refine d_done (by kernel_rfl) ?_
         refine go 1 ?_
         refine sx_drop ?_
         exact q_cut ⟨rfl, rfl, rfl, (congrArg (fun b => some (Value.bool b)) (by first | (simp only [h51, h63, h69, h75, h78, bS]; done) | (simp only [notAfter_at (nm := Prp.key) h0i hlt, h51, h63, h69, h75, h78, bS]; done) | (simp only [notAfter_zero (nm := Prp.key) (l := p.props) h0i, h51, h63, h69, h75, h78, bS]; done))), trivial⟩ rfl rfl
    ·refine cb rfl (fun h90 p90 => ?_) (fun h90 p90 => ?_)
     ·refine go 11 ?_
      refine fin1 rfl rfl ?_
      exact q_v (congrArg Value.bool (by rw [← ownR_eq]; simp only [ownR, h46, allP_not hlt (show propR (p.props.take i) p.props[i] = false by simp only [propR, h90]; rfl), bS]))
     ·refine go 9 ?_
      exact q_next (i + 1) ⟨by omega, allP_succ hn hlt (by simp only [propR, h90]; rfl)⟩ (by omega) rfl sb rfl
   ·have hAll : allP propR p.props p.props.length = true := (show i = p.props.length by omega) ▸ hn
    refine go 9 ?_
    refine o_v rfl (v_ldp (p.life.km.cells) m0 he rfl rfl rfl) ?_
    refine go 1 ?_
    refine o_callV (ref10amount _ p.life.km) rfl rfl ?_
    refine go 1 ?_
    refine sxb 95 rfl (fun h95 p95 => ?_) (fun h95 p95 => ?_)
    ·refine go 2 ?_
     refine o_cons (o_yes rfl rfl h95 (o_val rfl (v_ldp (p.life.cycles.cells) m0 he rfl rfl rfl) ?_))
     refine go 1 ?_
     refine o_yes rfl rfl h95 (o_callV (ref10amount _ p.life.cycles) rfl rfl ?_)
     refine go 2 ?_
     refine sxb 101 rfl (fun h101 p101 => ?_) (fun h101 p101 => ?_)
     ·refine go 2 ?_
      refine o_cons (o_yes rfl rfl h101 (o_val rfl (v_ldp (p.life.damage.cells) m0 he rfl rfl rfl) ?_))
      refine go 1 ?_
      refine o_yes rfl rfl h101 (o_callV (ref10amount _ p.life.damage) rfl rfl ?_)
      refine go 5 ?_
      refine fin1 rfl rfl ?_
      exact q_v (congrArg Value.bool (by rw [← ownR_eq]; simp only [ownR, h46, hAll, h51, h95, h101, bS]))
     ·refine go 9 ?_
      refine fin1 rfl rfl ?_
      exact q_v (congrArg Value.bool (by rw [← ownR_eq]; simp only [ownR, h46, hAll, h51, h95, h101, bS]))
    ·refine go 15 ?_
     refine fin1 rfl rfl ?_
     exact q_v (congrArg Value.bool (by rw [← ownR_eq]; simp only [ownR, h46, hAll, h51, h95, bS]))

theorem ref10At (I : IMap) (v : Value) (l : List Part) (hv : RdS I v l) (s : ByteArray) :
    FnV Tryz.prog 71 #[.agg #[v], .string s] I (.int .i64 (idxF (fun p : Part => decide (p.name = s)) l)) := by
 obtain ⟨A, c0, rfl, hA, hc, hm⟩ := hv
 refine enter Tryz.func71 Tryz.call71 rfl Tryz.ntmps71 rfl (fun w0 => ?_)
 refine go 3 ?_
 refine o_box _ rfl rfl rfl (fun g2 => ?_)
 refine go 10 ?_
 refine c_loop (α := Nat) 0 (fun i => I)
  (fun i => [(1, .string s), (2, .pointer (some ⟨g2, 0, none⟩)), (5, .int .i64 ((i : Nat) : Int))])
  (fun i => [.blk g2 81 [.slice A l.length c0]])
  (fun i => i ≤ l.length ∧ ∀ j x, j < i → l[j]? = some x → (fun p : Part => decide (p.name = s)) x = false)
  (fun i => l.length - i) ⟨Nat.zero_le _, fun j x hj => absurd hj (Nat.not_lt_zero j)⟩ rfl sb rfl ?_
 intro i ⟨hi, hn⟩
 refine go 10 ?_
 refine cb rfl (fun h10 p10 => ?_) (fun h10 p10 => ?_)
 ·have hlt : i < l.length := by omega
  refine go 9 ?_
  obtain ⟨b16, o16, w16, e16, c16, r16⟩ := RdA.at_ hA (i := i) hlt
  obtain ⟨q16, rfl, B16, d16, rfl, hB16, hd16, hm16⟩ := r16
  refine o_v rfl (v_idx he rfl rfl e16 (i) (by omega) hlt) ?_
  refine go 1 ?_
  refine o_v rfl (v_ldI he rfl (c16 0 _ rfl)) ?_
  refine go 4 ?_
  refine cb rfl (fun h20 p20 => ?_) (fun h20 p20 => ?_)
  ·refine go 12 ?_
   refine fin1 rfl rfl ?_
   exact q_v (congrArg (Value.int .i64) (idxF_found (p := (fun p : Part => decide (p.name = s))) hlt h20 hn).symm)
  ·refine go 9 ?_
   exact q_next (i + 1) ⟨by omega, idx_next (p := (fun p : Part => decide (p.name = s))) hn hlt h20⟩ (by omega) rfl sb rfl
 ·refine go 11 ?_
  refine fin1 rfl rfl ?_
  exact q_v (congrArg (Value.int .i64) (idxF_none (p := (fun p : Part => decide (p.name = s))) (fun j x hj => hn j x (by omega))).symm)

theorem ref10Valid (I : IMap) (vc : Value) (c : List Kind) (hvc : RdS I vc c) (hsc : SmC c) (v : Value) (l : List Part) (hv : RdS I v l) (hsf : SmF l) :
    FnV Tryz.prog 122 #[.agg #[vc], .agg #[v]] I (.bool (validS c l)) := by
 have hv0 := hv
 obtain ⟨A, c0, rfl, hA, hc, hm⟩ := hv
 refine enter Tryz.func122 Tryz.call122 rfl Tryz.ntmps122 rfl (fun w0 => ?_)
 refine go 3 ?_
 refine o_box _ rfl rfl rfl (fun g2 => ?_)
 refine go 1 ?_
 refine o_box _ rfl rfl rfl (fun g3 => ?_)
 refine go 5 ?_
 refine c_cut (I' := I) (L' := [(2, .pointer (some ⟨g2, 0, none⟩)), (3, .pointer (some ⟨g3, 0, none⟩)), (17, .bool (!validR c || decide ((20000 : Int) < (l.length : Nat))))]) (H' := [.blk g3 81 [.slice A l.length c0], .blk g2 25 [vc]]) ?_ ?_
 ·refine go 3 ?_
  refine o_callV (refValid _ vc c hvc hsc) rfl rfl ?_
  refine go 2 ?_
  refine sxb 12 rfl (fun h12 p12 => ?_) (fun h12 p12 => ?_)
  ·refine go 7 ?_
   exact q_cut ⟨rfl, rfl, (congrArg (fun b => some (Value.bool b)) (by simp only [h12, bS])), trivial⟩ rfl rfl
  ·refine go 7 ?_
   exact q_cut ⟨rfl, rfl, (congrArg (fun b => some (Value.bool b)) (by simp only [h12, bS])), trivial⟩ rfl rfl
 ·refine cb rfl (fun h17 p17 => ?_) (fun h17 p17 => ?_)
  ·refine go 7 ?_
   refine fin1 rfl rfl ?_
   exact q_v (congrArg Value.bool (by rw [← validSR_eq]; simp only [validSR, h17]; rfl))
  ·refine go 9 ?_
   refine c_loop (α := Nat) 0 (fun i => I)
    (fun i => [(2, .pointer (some ⟨g2, 0, none⟩)), (3, .pointer (some ⟨g3, 0, none⟩)), (5, .int .i64 ((i : Nat) : Int))])
    (fun i => [.blk g3 81 [.slice A l.length c0], .blk g2 25 [vc]])
    (fun i => i ≤ l.length ∧ allP (partR c l) l i = true)
    (fun i => l.length - i) ⟨Nat.zero_le _, rfl⟩ rfl sb rfl ?_
   intro i ⟨hi, hn⟩
   refine go 10 ?_
   refine cb rfl (fun h22 p22 => ?_) (fun h22 p22 => ?_)
   ·have hlt : i < l.length := by omega
    refine go 9 ?_
    obtain ⟨b28, o28, w28, e28, c28, r28⟩ := RdA.at_ hA (i := i) hlt
    obtain ⟨q28, rfl, B28, d28, rfl, hB28, hd28, hm28⟩ := r28
    refine o_v rfl (v_idx he rfl rfl e28 (i) (by omega) hlt) ?_
    refine o_v rfl (v_ldIa he rfl c28 rfl) ?_
    refine go 1 ?_
    refine o_alloc he rfl (fun g6 => ?_)
    refine go 1 ?_
    refine o_stw _ he rfl rfl rfl rfl rfl rfl ?_
    refine go 4 ?_
    refine c_cut (I' := I) (L' := [(2, .pointer (some ⟨g2, 0, none⟩)), (3, .pointer (some ⟨g3, 0, none⟩)), (5, .int .i64 ((i : Nat) : Int)), (6, .pointer (some ⟨g6, 0, none⟩)), (58, .bool (bad1R c (l.take i) l[i]))]) (H' := [.blk g6 89 (l[i].cells (.slice B28 l[i].props.length d28)), .blk g3 81 [.slice A l.length c0], .blk g2 25 [vc]]) ?_ ?_
    ·refine d_startH T.mixed ?_
     refine d_tv 0 rfl rfl (by kernel_rfl) rfl (.refl _) rfl (v_ldw m2 he rfl rfl) ?_
     refine d_tv 1 rfl rfl (by kernel_rfl) rfl (.refl _) rfl (v_ldw m0 he rfl rfl) ?_
     refine d_one 2 (by kernel_rfl) rfl ?_
     refine o_callV (ref10own _ vc c hvc l[i] B28 d28 ⟨_, _, rfl, hB28, hd28, hm28⟩ (hsf _ (List.getElem_mem hlt))) rfl rfl ?_
     refine d_on (fun _ m => m.keeps (.refl _)) ?_
     refine d_tv 3 rfl rfl (by kernel_rfl) rfl (.refl _) rfl (v_not rfl) ?_
     refine d_tv 4 rfl rfl (by kernel_rfl) rfl (.refl _) rfl (v_move rfl) ?_
     refine sxb 34 rfl (fun h34 p34 => ?_) (fun h34 p34 => ?_)
     ·refine d_t 5 rfl rfl (by kernel_rfl) rfl (fun _ m => m.keeps (.refl _)) (y_no rfl rfl h34) ?_
      refine d_t 6 rfl rfl (by kernel_rfl) rfl (fun _ m => m.keeps (.refl _)) (y_no rfl rfl h34) ?_
      refine d_t 7 rfl rfl (by kernel_rfl) rfl (fun _ m => m.keeps (.refl _)) (y_no rfl rfl h34) ?_
      refine d_t 8 rfl rfl (by kernel_rfl) rfl (fun _ m => m.keeps (.refl _)) (y_nou rfl rfl) ?_
      refine d_t 9 rfl rfl (by kernel_rfl) rfl (fun _ m => m.keeps (.refl _)) (y_nou rfl rfl) ?_
      refine d_t 10 rfl rfl (by kernel_rfl) rfl (fun _ m => m.keeps (.refl _)) (y_nou rfl rfl) ?_
      refine d_t 11 rfl rfl (by kernel_rfl) rfl (fun _ m => m.keeps (.refl _)) (y_nou rfl rfl) ?_
      refine d_t 12 rfl rfl (by kernel_rfl) rfl (fun _ m => m.keeps (.refl _)) (y_nou rfl rfl) ?_
      refine d_t 13 rfl rfl (by kernel_rfl) rfl (fun _ m => m.keeps (.refl _)) (y_nou rfl rfl) ?_
      refine d_t 14 rfl rfl (by kernel_rfl) rfl (fun _ m => m.keeps (.refl _)) (y_nou rfl rfl) ?_
      refine d_t 15 rfl rfl (by kernel_rfl) rfl (fun _ m => m.keeps (.refl _)) (y_nou rfl rfl) ?_
      refine d_t 16 rfl rfl (by kernel_rfl) rfl (fun _ m => m.keeps (.refl _)) (y_nou rfl rfl) ?_
      refine d_t 17 rfl rfl (by kernel_rfl) rfl (fun _ m => m.keeps (.refl _)) (y_nou rfl rfl) ?_
      refine d_t 18 rfl rfl (by kernel_rfl) rfl (fun _ m => m.keeps (.refl _)) (y_no rfl rfl h34) ?_
      refine d_tv 19 rfl rfl (by kernel_rfl) rfl (.refl _) rfl (v_or_t h34 rfl) ?_
      refine d_tv 20 rfl rfl (by kernel_rfl) rfl (.refl _) rfl (v_move rfl) ?_
      refine d_t 21 rfl rfl (by kernel_rfl) rfl (fun _ m => m.keeps (.refl _)) (y_no rfl rfl rfl) ?_
      refine d_t 22 rfl rfl (by kernel_rfl) rfl (fun _ m => m.keeps (.refl _)) (y_no rfl rfl rfl) ?_
      refine d_t 23 rfl rfl (by kernel_rfl) rfl (fun _ m => m.keeps (.refl _)) (y_no rfl rfl rfl) ?_
      refine d_t 24 rfl rfl (by kernel_rfl) rfl (fun _ m => m.keeps (.refl _)) (y_no rfl rfl rfl) ?_
      refine d_t 25 rfl rfl (by kernel_rfl) rfl (fun _ m => m.keeps (.refl _)) (y_no rfl rfl rfl) ?_
      refine d_t 26 rfl rfl (by kernel_rfl) rfl (fun _ m => m.keeps (.refl _)) (y_no rfl rfl rfl) ?_
      refine d_t 27 rfl rfl (by kernel_rfl) rfl (fun _ m => m.keeps (.refl _)) (y_no rfl rfl rfl) ?_
      refine d_tv 28 rfl rfl (by kernel_rfl) rfl (.refl _) rfl (v_or_t rfl rfl) ?_
      refine d_done (by kernel_rfl) ?_
      refine go 1 ?_
      exact q_cut ⟨rfl, rfl, rfl, rfl, (congrArg (fun b => some (Value.bool b)) (by first | (simp only [bad1R, ownR_eq, h22, h34, bS]; done) | (simp only [bad1R, ownR_eq, notAfter_at (nm := Part.name) h0i hlt, h22, h34, bS]; done) | (simp only [bad1R, ownR_eq, notAfter_zero (nm := Part.name) (l := l) h0i, h22, h34, bS]; done))), trivial⟩ rfl rfl
     ·refine d_t 5 rfl rfl (by kernel_rfl) rfl (fun _ m => m.keeps (.refl _)) (y_yes rfl rfl h34 (v_move rfl)) ?_
      refine d_t 6 rfl rfl (by kernel_rfl) rfl (fun _ m => m.keeps (.refl _)) (y_yes rfl rfl h34 (v_gtr rfl rfl)) ?_
      refine d_t 7 rfl rfl (by kernel_rfl) rfl (fun _ m => m.keeps (.refl _)) (y_yes rfl rfl h34 (v_move rfl)) ?_
      refine sxb 37 rfl (fun h37 p37 => ?_) (fun h37 p37 => ?_)
      ·have h0i : 0 < i := by omega
       refine d_t 8 rfl rfl (by kernel_rfl) rfl (fun _ m => m.keeps (.refl _)) (y_yes rfl rfl h37 (v_fieldAddr he rfl)) ?_
       refine d_t 9 rfl rfl (by kernel_rfl) rfl (fun _ m => m.keeps (.refl _)) (y_yes rfl rfl h37 (v_ld m1 he rfl rfl)) ?_
       refine d_t 10 rfl rfl (by kernel_rfl) rfl (fun _ m => m.keeps (.refl _)) (y_yes rfl rfl h37 (v_move rfl)) ?_
       refine d_t 11 rfl rfl (by kernel_rfl) rfl (fun _ m => m.keeps (.refl _)) (y_yes rfl rfl h37 (OV.cast (u := .int .i64 ((i - 1 : Nat) : Int)) (v_sub rfl rfl ⟨by omega, by omega⟩) (congrArg (Value.int .i64) (by omega)))) ?_
       obtain ⟨b42, o42, w42, e42, c42, r42⟩ := RdA.at_ hA (i := i - 1) (by omega)
       obtain ⟨q42, rfl, B42, d42, rfl, hB42, hd42, hm42⟩ := r42
       refine d_t 12 rfl rfl (by kernel_rfl) rfl (fun _ m => m.keeps (.refl _)) (y_yes rfl rfl h37 (v_idx he rfl rfl e42 (i - 1) (by omega) (by omega))) ?_
       refine d_t 13 rfl rfl (by kernel_rfl) rfl (fun _ m => m.keeps (.refl _)) (y_yes rfl rfl h37 (v_fieldAddr he rfl)) ?_
       refine d_t 14 rfl rfl (by kernel_rfl) rfl (fun _ m => m.keeps (.refl _)) (y_yes rfl rfl h37 (v_ldI he rfl (c42 0 _ rfl))) ?_
       refine d_t 15 rfl rfl (by kernel_rfl) rfl (fun _ m => m.keeps (.refl _)) (y_yes rfl rfl h37 (v_fieldAddr he rfl)) ?_
       refine d_t 16 rfl rfl (by kernel_rfl) rfl (fun _ m => m.keeps (.refl _)) (y_yes rfl rfl h37 (v_ld m0 he rfl rfl)) ?_
       refine d_t 17 rfl rfl (by kernel_rfl) rfl (fun _ m => m.keeps (.refl _)) (y_yes rfl rfl h37 (v_sgeq rfl rfl)) ?_
       refine d_t 18 rfl rfl (by kernel_rfl) rfl (fun _ m => m.keeps (.refl _)) (y_yes rfl rfl h34 (v_and_t h37 rfl rfl)) ?_
       refine d_tv 19 rfl rfl (by kernel_rfl) rfl (.refl _) rfl (v_or_f h34 rfl rfl) ?_
       refine d_tv 20 rfl rfl (by kernel_rfl) rfl (.refl _) rfl (v_move rfl) ?_
       refine sxb 50 rfl (fun h50 p50 => ?_) (fun h50 p50 => ?_)
       ·refine d_t 21 rfl rfl (by kernel_rfl) rfl (fun _ m => m.keeps (.refl _)) (y_no rfl rfl h50) ?_
        refine d_t 22 rfl rfl (by kernel_rfl) rfl (fun _ m => m.keeps (.refl _)) (y_no rfl rfl h50) ?_
        refine d_t 23 rfl rfl (by kernel_rfl) rfl (fun _ m => m.keeps (.refl _)) (y_no rfl rfl h50) ?_
        refine d_t 24 rfl rfl (by kernel_rfl) rfl (fun _ m => m.keeps (.refl _)) (y_no rfl rfl h50) ?_
        refine d_t 25 rfl rfl (by kernel_rfl) rfl (fun _ m => m.keeps (.refl _)) (y_no rfl rfl h50) ?_
        refine d_t 26 rfl rfl (by kernel_rfl) rfl (fun _ m => m.keeps (.refl _)) (y_no rfl rfl h50) ?_
        refine d_t 27 rfl rfl (by kernel_rfl) rfl (fun _ m => m.keeps (.refl _)) (y_no rfl rfl h50) ?_
        refine d_tv 28 rfl rfl (by kernel_rfl) rfl (.refl _) rfl (v_or_t h50 rfl) ?_
        refine d_done (by kernel_rfl) ?_
        refine go 1 ?_
        exact q_cut ⟨rfl, rfl, rfl, rfl, (congrArg (fun b => some (Value.bool b)) (by first | (simp only [bad1R, ownR_eq, h22, h34, h37, h50, bS]; done) | (simp only [bad1R, ownR_eq, notAfter_at (nm := Part.name) h0i hlt, h22, h34, h37, h50, bS]; done) | (simp only [bad1R, ownR_eq, notAfter_zero (nm := Part.name) (l := l) h0i, h22, h34, h37, h50, bS]; done))), trivial⟩ rfl rfl
       ·refine d_t 21 rfl rfl (by kernel_rfl) rfl (fun _ m => m.keeps (.refl _)) (y_yes rfl rfl h50 (v_fieldAddr he rfl)) ?_
        refine d_t 22 rfl rfl (by kernel_rfl) rfl (fun _ m => m.keeps (.refl _)) (y_yes rfl rfl h50 (v_ld m0 he rfl rfl)) ?_
        refine d_t 23 rfl rfl (by kernel_rfl) rfl (fun _ m => m.keeps (.refl _)) (y_yes rfl rfl h50 (v_seql rfl rfl)) ?_
        refine d_t 24 rfl rfl (by kernel_rfl) rfl (fun _ m => m.keeps (.refl _)) (y_yes rfl rfl h50 (v_fieldAddr he rfl)) ?_
        refine d_t 25 rfl rfl (by kernel_rfl) rfl (fun _ m => m.keeps (.refl _)) (y_yes rfl rfl h50 (v_ld m0 he rfl rfl)) ?_
        refine d_t 26 rfl rfl (by kernel_rfl) rfl (fun _ m => m.keeps (.refl _)) (y_yes rfl rfl h50 (v_seql rfl rfl)) ?_
        refine d_t 27 rfl rfl (by kernel_rfl) rfl (fun _ m => m.keeps (.refl _)) (y_yes rfl rfl h50 (v_bneq he rfl rfl)) ?_
        refine d_tv 28 rfl rfl (by kernel_rfl) rfl (.refl _) rfl (v_or_f h50 rfl rfl) ?_
        refine d_done (by kernel_rfl) ?_
        refine go 1 ?_
        exact q_cut ⟨rfl, rfl, rfl, rfl, (congrArg (fun b => some (Value.bool b)) (by first | (simp only [bad1R, ownR_eq, h22, h34, h37, h50, bS]; done) | (simp only [bad1R, ownR_eq, notAfter_at (nm := Part.name) h0i hlt, h22, h34, h37, h50, bS]; done) | (simp only [bad1R, ownR_eq, notAfter_zero (nm := Part.name) (l := l) h0i, h22, h34, h37, h50, bS]; done))), trivial⟩ rfl rfl
      ·have h0i : ¬ 0 < i := by omega
       refine d_t 8 rfl rfl (by kernel_rfl) rfl (fun _ m => m.keeps (.refl _)) (y_no rfl rfl h37) ?_
       refine d_t 9 rfl rfl (by kernel_rfl) rfl (fun _ m => m.keeps (.refl _)) (y_no rfl rfl h37) ?_
       refine d_t 10 rfl rfl (by kernel_rfl) rfl (fun _ m => m.keeps (.refl _)) (y_no rfl rfl h37) ?_
       refine d_t 11 rfl rfl (by kernel_rfl) rfl (fun _ m => m.keeps (.refl _)) (y_no rfl rfl h37) ?_
       refine d_t 12 rfl rfl (by kernel_rfl) rfl (fun _ m => m.keeps (.refl _)) (y_no rfl rfl h37) ?_
       refine d_t 13 rfl rfl (by kernel_rfl) rfl (fun _ m => m.keeps (.refl _)) (y_no rfl rfl h37) ?_
       refine d_t 14 rfl rfl (by kernel_rfl) rfl (fun _ m => m.keeps (.refl _)) (y_no rfl rfl h37) ?_
       refine d_t 15 rfl rfl (by kernel_rfl) rfl (fun _ m => m.keeps (.refl _)) (y_no rfl rfl h37) ?_
       refine d_t 16 rfl rfl (by kernel_rfl) rfl (fun _ m => m.keeps (.refl _)) (y_no rfl rfl h37) ?_
       refine d_t 17 rfl rfl (by kernel_rfl) rfl (fun _ m => m.keeps (.refl _)) (y_no rfl rfl h37) ?_
       refine d_t 18 rfl rfl (by kernel_rfl) rfl (fun _ m => m.keeps (.refl _)) (y_yes rfl rfl h34 (v_and_f h37 rfl)) ?_
       refine d_tv 19 rfl rfl (by kernel_rfl) rfl (.refl _) rfl (v_or_f h34 rfl rfl) ?_
       refine d_tv 20 rfl rfl (by kernel_rfl) rfl (.refl _) rfl (v_move rfl) ?_
       refine d_t 21 rfl rfl (by kernel_rfl) rfl (fun _ m => m.keeps (.refl _)) (y_yes rfl rfl rfl (v_fieldAddr he rfl)) ?_
       refine d_t 22 rfl rfl (by kernel_rfl) rfl (fun _ m => m.keeps (.refl _)) (y_yes rfl rfl rfl (v_ld m0 he rfl rfl)) ?_
       refine d_t 23 rfl rfl (by kernel_rfl) rfl (fun _ m => m.keeps (.refl _)) (y_yes rfl rfl rfl (v_seql rfl rfl)) ?_
       refine d_t 24 rfl rfl (by kernel_rfl) rfl (fun _ m => m.keeps (.refl _)) (y_yes rfl rfl rfl (v_fieldAddr he rfl)) ?_
       refine d_t 25 rfl rfl (by kernel_rfl) rfl (fun _ m => m.keeps (.refl _)) (y_yes rfl rfl rfl (v_ld m0 he rfl rfl)) ?_
       refine d_t 26 rfl rfl (by kernel_rfl) rfl (fun _ m => m.keeps (.refl _)) (y_yes rfl rfl rfl (v_seql rfl rfl)) ?_
       refine d_t 27 rfl rfl (by kernel_rfl) rfl (fun _ m => m.keeps (.refl _)) (y_yes rfl rfl rfl (v_bneq he rfl rfl)) ?_
       refine d_tv 28 rfl rfl (by kernel_rfl) rfl (.refl _) rfl (v_or_f rfl rfl rfl) ?_
       refine d_done (by kernel_rfl) ?_
       refine go 1 ?_
       exact q_cut ⟨rfl, rfl, rfl, rfl, (congrArg (fun b => some (Value.bool b)) (by first | (simp only [bad1R, ownR_eq, h22, h34, h37, bS]; done) | (simp only [bad1R, ownR_eq, notAfter_at (nm := Part.name) h0i hlt, h22, h34, h37, bS]; done) | (simp only [bad1R, ownR_eq, notAfter_zero (nm := Part.name) (l := l) h0i, h22, h34, h37, bS]; done))), trivial⟩ rfl rfl
    ·refine cb rfl (fun h58 p58 => ?_) (fun h58 p58 => ?_)
     ·refine go 12 ?_
      refine fin1 rfl rfl ?_
      exact q_v (congrArg Value.bool (by rw [← validSR_eq]; simp only [validSR, h17, allP_not (f := partR c l) hlt (show partR c l (l.take i) l[i] = false by simp only [partR, h58]; rfl), bS]))
     ·refine go 10 ?_
      refine cb rfl (fun h61 p61 => ?_) (fun h61 p61 => ?_)
      ·refine go 10 ?_
       refine sx_drop ?_
       exact q_next (i + 1) ⟨by omega, allP_succ hn hlt (by simp only [partR, h58, h61]; rfl)⟩ (by omega) rfl sb rfl
      ·refine go 8 ?_
       refine o_callV (ref10At _ _ l hv0 l[i].into) rfl rfl ?_
       refine go 5 ?_
       refine c_cut (I' := I) (L' := [(2, .pointer (some ⟨g2, 0, none⟩)), (3, .pointer (some ⟨g3, 0, none⟩)), (5, .int .i64 ((i : Nat) : Int)), (6, .pointer (some ⟨g6, 0, none⟩)), (94, .bool (bad2R c l l[i]))]) (H' := [.blk g6 89 (l[i].cells (.slice B28 l[i].props.length d28)), .blk g3 81 [.slice A l.length c0], .blk g2 25 [vc]]) ?_ ?_
       ·refine d_startH T.mixed ?_
        refine d_tv 0 rfl rfl (by kernel_rfl) rfl (.refl _) rfl (v_move rfl) ?_
        refine d_tv 1 rfl rfl (by kernel_rfl) rfl (.refl _) rfl (v_lss rfl rfl) ?_
        refine d_tv 2 rfl rfl (by kernel_rfl) rfl (.refl _) rfl (v_move rfl) ?_
        refine sxb 68 rfl (fun h68 p68 => ?_) (fun h68 p68 => ?_)
        ·have hF : findP l l[i].into = none := ((idxF_find (fun p : Part => decide (p.name = l[i].into)) l).resolve_right (by rintro ⟨k, hk, e, _⟩; omega)).2
         refine d_t 3 rfl rfl (by kernel_rfl) rfl (fun _ m => m.keeps (.refl _)) (y_no rfl rfl h68) ?_
         refine d_t 4 rfl rfl (by kernel_rfl) rfl (fun _ m => m.keeps (.refl _)) (y_no rfl rfl h68) ?_
         refine d_tv 5 rfl rfl (by kernel_rfl) rfl (.refl _) rfl (v_or_t h68 rfl) ?_
         refine d_tv 6 rfl rfl (by kernel_rfl) rfl (.refl _) rfl (v_move rfl) ?_
         refine d_t 7 rfl rfl (by kernel_rfl) rfl (fun _ m => m.keeps (.refl _)) (y_no rfl rfl rfl) ?_
         refine d_t 8 rfl rfl (by kernel_rfl) rfl (fun _ m => m.keeps (.refl _)) (y_no rfl rfl rfl) ?_
         refine d_t 9 rfl rfl (by kernel_rfl) rfl (fun _ m => m.keeps (.refl _)) (y_no rfl rfl rfl) ?_
         refine d_t 10 rfl rfl (by kernel_rfl) rfl (fun _ m => m.keeps (.refl _)) (y_no rfl rfl rfl) ?_
         refine d_t 11 rfl rfl (by kernel_rfl) rfl (fun _ m => m.keeps (.refl _)) (y_no rfl rfl rfl) ?_
         refine d_t 12 rfl rfl (by kernel_rfl) rfl (fun _ m => m.keeps (.refl _)) (y_no rfl rfl rfl) ?_
         refine d_tv 13 rfl rfl (by kernel_rfl) rfl (.refl _) rfl (v_or_t rfl rfl) ?_
         refine d_tv 14 rfl rfl (by kernel_rfl) rfl (.refl _) rfl (v_move rfl) ?_
         refine d_t 15 rfl rfl (by kernel_rfl) rfl (fun _ m => m.keeps (.refl _)) (y_no rfl rfl rfl) ?_
         refine d_t 16 rfl rfl (by kernel_rfl) rfl (fun _ m => m.keeps (.refl _)) (y_no rfl rfl rfl) ?_
         refine d_t 17 rfl rfl (by kernel_rfl) rfl (fun _ m => m.keeps (.refl _)) (y_no rfl rfl rfl) ?_
         refine d_t 18 rfl rfl (by kernel_rfl) rfl (fun _ m => m.keeps (.refl _)) (y_no rfl rfl rfl) ?_
         refine d_t 19 rfl rfl (by kernel_rfl) rfl (fun _ m => m.keeps (.refl _)) (y_no rfl rfl rfl) ?_
         refine d_t 20 rfl rfl (by kernel_rfl) rfl (fun _ m => m.keeps (.refl _)) (y_no rfl rfl rfl) ?_
         refine d_t 21 rfl rfl (by kernel_rfl) rfl (fun _ m => m.keeps (.refl _)) (y_no rfl rfl rfl) ?_
         refine d_t 22 rfl rfl (by kernel_rfl) rfl (fun _ m => m.keeps (.refl _)) (y_no rfl rfl rfl) ?_
         refine d_t 23 rfl rfl (by kernel_rfl) rfl (fun _ m => m.keeps (.refl _)) (y_no rfl rfl rfl) ?_
         refine d_t 24 rfl rfl (by kernel_rfl) rfl (fun _ m => m.keeps (.refl _)) (y_no rfl rfl rfl) ?_
         refine d_t 25 rfl rfl (by kernel_rfl) rfl (fun _ m => m.keeps (.refl _)) (y_no rfl rfl rfl) ?_
         refine d_t 26 rfl rfl (by kernel_rfl) rfl (fun _ m => m.keeps (.refl _)) (y_no rfl rfl rfl) ?_
         refine d_t 27 rfl rfl (by kernel_rfl) rfl (fun _ m => m.keeps (.refl _)) (y_no rfl rfl rfl) ?_
         refine d_tv 28 rfl rfl (by kernel_rfl) rfl (.refl _) rfl (v_or_t rfl rfl) ?_
         refine d_done (by kernel_rfl) ?_
         refine go 1 ?_
         exact q_cut ⟨rfl, rfl, rfl, rfl, (congrArg (fun b => some (Value.bool b)) (by first | (simp only [bad2R, hF, h58, h61, h68, Option.isSome_none, Option.isSome_some, Option.getD_some, bS]; done) | (simp only [bad2R, hS, h58, h61, h68, bS]; done))), trivial⟩ rfl rfl
        ·have hS : (findP l l[i].into).isSome = true := (by rw [← find_idx]; simpa using p68)
         refine d_t 3 rfl rfl (by kernel_rfl) rfl (fun _ m => m.keeps (.refl _)) (y_yes rfl rfl h68 (v_fieldAddr he rfl)) ?_
         refine d_t 4 rfl rfl (by kernel_rfl) rfl (fun _ m => m.keeps (.refl _)) (y_yes rfl rfl h68 (v_ld m0 he rfl rfl)) ?_
         refine d_tv 5 rfl rfl (by kernel_rfl) rfl (.refl _) rfl (v_or_f h68 rfl rfl) ?_
         refine d_tv 6 rfl rfl (by kernel_rfl) rfl (.refl _) rfl (v_move rfl) ?_
         refine sxb 72 rfl (fun h72 p72 => ?_) (fun h72 p72 => ?_)
         ·refine d_t 7 rfl rfl (by kernel_rfl) rfl (fun _ m => m.keeps (.refl _)) (y_no rfl rfl h72) ?_
          refine d_t 8 rfl rfl (by kernel_rfl) rfl (fun _ m => m.keeps (.refl _)) (y_no rfl rfl h72) ?_
          refine d_t 9 rfl rfl (by kernel_rfl) rfl (fun _ m => m.keeps (.refl _)) (y_no rfl rfl h72) ?_
          refine d_t 10 rfl rfl (by kernel_rfl) rfl (fun _ m => m.keeps (.refl _)) (y_no rfl rfl h72) ?_
          refine d_t 11 rfl rfl (by kernel_rfl) rfl (fun _ m => m.keeps (.refl _)) (y_no rfl rfl h72) ?_
          refine d_t 12 rfl rfl (by kernel_rfl) rfl (fun _ m => m.keeps (.refl _)) (y_no rfl rfl h72) ?_
          refine d_tv 13 rfl rfl (by kernel_rfl) rfl (.refl _) rfl (v_or_t h72 rfl) ?_
          refine d_tv 14 rfl rfl (by kernel_rfl) rfl (.refl _) rfl (v_move rfl) ?_
          refine d_t 15 rfl rfl (by kernel_rfl) rfl (fun _ m => m.keeps (.refl _)) (y_no rfl rfl rfl) ?_
          refine d_t 16 rfl rfl (by kernel_rfl) rfl (fun _ m => m.keeps (.refl _)) (y_no rfl rfl rfl) ?_
          refine d_t 17 rfl rfl (by kernel_rfl) rfl (fun _ m => m.keeps (.refl _)) (y_no rfl rfl rfl) ?_
          refine d_t 18 rfl rfl (by kernel_rfl) rfl (fun _ m => m.keeps (.refl _)) (y_no rfl rfl rfl) ?_
          refine d_t 19 rfl rfl (by kernel_rfl) rfl (fun _ m => m.keeps (.refl _)) (y_no rfl rfl rfl) ?_
          refine d_t 20 rfl rfl (by kernel_rfl) rfl (fun _ m => m.keeps (.refl _)) (y_no rfl rfl rfl) ?_
          refine d_t 21 rfl rfl (by kernel_rfl) rfl (fun _ m => m.keeps (.refl _)) (y_no rfl rfl rfl) ?_
          refine d_t 22 rfl rfl (by kernel_rfl) rfl (fun _ m => m.keeps (.refl _)) (y_no rfl rfl rfl) ?_
          refine d_t 23 rfl rfl (by kernel_rfl) rfl (fun _ m => m.keeps (.refl _)) (y_no rfl rfl rfl) ?_
          refine d_t 24 rfl rfl (by kernel_rfl) rfl (fun _ m => m.keeps (.refl _)) (y_no rfl rfl rfl) ?_
          refine d_t 25 rfl rfl (by kernel_rfl) rfl (fun _ m => m.keeps (.refl _)) (y_no rfl rfl rfl) ?_
          refine d_t 26 rfl rfl (by kernel_rfl) rfl (fun _ m => m.keeps (.refl _)) (y_no rfl rfl rfl) ?_
          refine d_t 27 rfl rfl (by kernel_rfl) rfl (fun _ m => m.keeps (.refl _)) (y_no rfl rfl rfl) ?_
          refine d_tv 28 rfl rfl (by kernel_rfl) rfl (.refl _) rfl (v_or_t rfl rfl) ?_
          refine d_done (by kernel_rfl) ?_
          refine go 1 ?_
          exact q_cut ⟨rfl, rfl, rfl, rfl, (congrArg (fun b => some (Value.bool b)) (by first | (simp only [bad2R, hF, h58, h61, h68, h72, Option.isSome_none, Option.isSome_some, Option.getD_some, bS]; done) | (simp only [bad2R, hS, h58, h61, h68, h72, bS]; done))), trivial⟩ rfl rfl
         ·refine d_t 7 rfl rfl (by kernel_rfl) rfl (fun _ m => m.keeps (.refl _)) (y_yes rfl rfl h72 (v_fieldAddr he rfl)) ?_
          refine d_t 8 rfl rfl (by kernel_rfl) rfl (fun _ m => m.keeps (.refl _)) (y_yes rfl rfl h72 (v_ld m1 he rfl rfl)) ?_
          refine d_t 9 rfl rfl (by kernel_rfl) rfl (fun _ m => m.keeps (.refl _)) (y_yes rfl rfl h72 (v_move rfl)) ?_
          obtain ⟨k, hk, ek, hF⟩ := (idxF_find (fun p : Part => decide (p.name = l[i].into)) l).resolve_left (fun h => by omega)
          have hF : findP l l[i].into = some l[k] := hF
          obtain ⟨b76, o76, w76, e76, c76, r76⟩ := RdA.at_ hA (i := k) hk
          obtain ⟨q76, rfl, B76, d76, rfl, hB76, hd76, hm76⟩ := r76
          refine d_t 10 rfl rfl (by kernel_rfl) rfl (fun _ m => m.keeps (.refl _)) (y_yes rfl rfl h72 (v_idx he rfl rfl e76 (k) ek hk)) ?_
          refine d_t 11 rfl rfl (by kernel_rfl) rfl (fun _ m => m.keeps (.refl _)) (y_yes rfl rfl h72 (v_fieldAddr he rfl)) ?_
          refine d_t 12 rfl rfl (by kernel_rfl) rfl (fun _ m => m.keeps (.refl _)) (y_yes rfl rfl h72 (v_ldI he rfl (c76 6 _ rfl))) ?_
          refine d_tv 13 rfl rfl (by kernel_rfl) rfl (.refl _) rfl (v_or_f h72 rfl rfl) ?_
          refine d_tv 14 rfl rfl (by kernel_rfl) rfl (.refl _) rfl (v_move rfl) ?_
          refine sxb 80 rfl (fun h80 p80 => ?_) (fun h80 p80 => ?_)
          ·refine d_t 15 rfl rfl (by kernel_rfl) rfl (fun _ m => m.keeps (.refl _)) (y_no rfl rfl h80) ?_
           refine d_t 16 rfl rfl (by kernel_rfl) rfl (fun _ m => m.keeps (.refl _)) (y_no rfl rfl h80) ?_
           refine d_t 17 rfl rfl (by kernel_rfl) rfl (fun _ m => m.keeps (.refl _)) (y_no rfl rfl h80) ?_
           refine d_t 18 rfl rfl (by kernel_rfl) rfl (fun _ m => m.keeps (.refl _)) (y_no rfl rfl h80) ?_
           refine d_t 19 rfl rfl (by kernel_rfl) rfl (fun _ m => m.keeps (.refl _)) (y_no rfl rfl h80) ?_
           refine d_t 20 rfl rfl (by kernel_rfl) rfl (fun _ m => m.keeps (.refl _)) (y_no rfl rfl h80) ?_
           refine d_t 21 rfl rfl (by kernel_rfl) rfl (fun _ m => m.keeps (.refl _)) (y_no rfl rfl h80) ?_
           refine d_t 22 rfl rfl (by kernel_rfl) rfl (fun _ m => m.keeps (.refl _)) (y_no rfl rfl h80) ?_
           refine d_t 23 rfl rfl (by kernel_rfl) rfl (fun _ m => m.keeps (.refl _)) (y_no rfl rfl h80) ?_
           refine d_t 24 rfl rfl (by kernel_rfl) rfl (fun _ m => m.keeps (.refl _)) (y_no rfl rfl h80) ?_
           refine d_t 25 rfl rfl (by kernel_rfl) rfl (fun _ m => m.keeps (.refl _)) (y_no rfl rfl h80) ?_
           refine d_t 26 rfl rfl (by kernel_rfl) rfl (fun _ m => m.keeps (.refl _)) (y_no rfl rfl h80) ?_
           refine d_t 27 rfl rfl (by kernel_rfl) rfl (fun _ m => m.keeps (.refl _)) (y_no rfl rfl h80) ?_
           refine d_tv 28 rfl rfl (by kernel_rfl) rfl (.refl _) rfl (v_or_t h80 rfl) ?_
           refine d_done (by kernel_rfl) ?_
           refine go 1 ?_
           exact q_cut ⟨rfl, rfl, rfl, rfl, (congrArg (fun b => some (Value.bool b)) (by first | (simp only [bad2R, hF, h58, h61, h68, h72, h80, Option.isSome_none, Option.isSome_some, Option.getD_some, bS]; done) | (simp only [bad2R, hS, h58, h61, h68, h72, h80, bS]; done))), trivial⟩ rfl rfl
          ·refine d_t 15 rfl rfl (by kernel_rfl) rfl (fun _ m => m.keeps (.refl _)) (y_yes rfl rfl h80 (v_ldw m2 he rfl rfl)) ?_
           refine d_t 16 rfl rfl (by kernel_rfl) rfl (fun _ m => m.keeps (.refl _)) (y_yes rfl rfl h80 (v_fieldAddr he rfl)) ?_
           refine d_t 17 rfl rfl (by kernel_rfl) rfl (fun _ m => m.keeps (.refl _)) (y_yes rfl rfl h80 (v_ld m1 he rfl rfl)) ?_
           refine d_t 18 rfl rfl (by kernel_rfl) rfl (fun _ m => m.keeps (.refl _)) (y_yes rfl rfl h80 (v_move rfl)) ?_
           obtain ⟨b85, o85, w85, e85, c85, r85⟩ := RdA.at_ hA (i := k) hk
           obtain ⟨q85, rfl, B85, d85, rfl, hB85, hd85, hm85⟩ := r85
           refine d_t 19 rfl rfl (by kernel_rfl) rfl (fun _ m => m.keeps (.refl _)) (y_yes rfl rfl h80 (v_idx he rfl rfl e85 (k) ek hk)) ?_
           refine d_t 20 rfl rfl (by kernel_rfl) rfl (fun _ m => m.keeps (.refl _)) (y_yes rfl rfl h80 (v_fieldAddr he rfl)) ?_
           refine d_t 21 rfl rfl (by kernel_rfl) rfl (fun _ m => m.keeps (.refl _)) (y_yes rfl rfl h80 (v_ldI he rfl (c85 1 _ rfl))) ?_
           refine d_t 22 rfl rfl (by kernel_rfl) rfl (fun _ m => m.keeps (.refl _)) (y_yes rfl rfl h80 (v_fieldAddr he rfl)) ?_
           refine d_t 23 rfl rfl (by kernel_rfl) rfl (fun _ m => m.keeps (.refl _)) (y_yes rfl rfl h80 (v_ld m0 he rfl rfl)) ?_
           refine d_t 24 rfl rfl (by kernel_rfl) rfl (fun _ m => m.keeps (.refl _)) (y_yes rfl rfl h80 (v_fieldAddr he rfl)) ?_
           refine d_t 25 rfl rfl (by kernel_rfl) rfl (fun _ m => m.keeps (.refl _)) (y_yes rfl rfl h80 (v_ld m0 he rfl rfl)) ?_
           refine d_one 26 (by kernel_rfl) rfl ?_
           refine o_yes rfl rfl h80 (o_callV (ref08Takes _ vc c hvc _ _ _) rfl rfl ?_)
           refine d_on (fun _ m => m.keeps (.refl _)) ?_
           refine d_t 27 rfl rfl (by kernel_rfl) rfl (fun _ m => m.keeps (.refl _)) (y_yes rfl rfl h80 (v_not rfl)) ?_
           refine d_tv 28 rfl rfl (by kernel_rfl) rfl (.refl _) rfl (v_or_f h80 rfl rfl) ?_
           refine d_done (by kernel_rfl) ?_
           refine go 1 ?_
           exact q_cut ⟨rfl, rfl, rfl, rfl, (congrArg (fun b => some (Value.bool b)) (by first | (simp only [bad2R, hF, h58, h61, h68, h72, h80, Option.isSome_none, Option.isSome_some, Option.getD_some, bS]; done) | (simp only [bad2R, hS, h58, h61, h68, h72, h80, bS]; done))), trivial⟩ rfl rfl
       ·refine cb rfl (fun h94 p94 => ?_) (fun h94 p94 => ?_)
        ·refine go 12 ?_
         refine fin1 rfl rfl ?_
         exact q_v (congrArg Value.bool (by rw [← validSR_eq]; simp only [validSR, h17, allP_not (f := partR c l) hlt (show partR c l (l.take i) l[i] = false by simp only [partR, h58, h61, h94]; rfl), bS]))
        ·refine go 8 ?_
         refine c_loop (α := Nat) 0 (fun m => I)
          (fun m => [(2, .pointer (some ⟨g2, 0, none⟩)), (3, .pointer (some ⟨g3, 0, none⟩)), (5, .int .i64 ((i : Nat) : Int)), (6, .pointer (some ⟨g6, 0, none⟩)), (8, .int .i64 ((m : Nat) : Int))])
          (fun m => [.blk g6 89 (l[i].cells (.slice B28 l[i].props.length d28)), .blk g3 81 [.slice A l.length c0], .blk g2 25 [vc]])
          (fun m => m ≤ i ∧ ∀ j x, j < m → l[j]? = some x → clash l[i] x = false)
          (fun m => i - m) ⟨Nat.zero_le _, fun j x hj => absurd hj (Nat.not_lt_zero j)⟩ rfl sb rfl ?_
         intro m ⟨hmm, hq⟩
         refine go 8 ?_
         refine cb rfl (fun h97 p97 => ?_) (fun h97 p97 => ?_)
         ·have hlm : m < l.length := by omega
          refine go 5 ?_
          refine c_cut (I' := I) (L' := [(2, .pointer (some ⟨g2, 0, none⟩)), (3, .pointer (some ⟨g3, 0, none⟩)), (5, .int .i64 ((i : Nat) : Int)), (6, .pointer (some ⟨g6, 0, none⟩)), (8, .int .i64 ((m : Nat) : Int)), (119, .bool (clash l[i] l[m]))]) (H' := [.blk g6 89 (l[i].cells (.slice B28 l[i].props.length d28)), .blk g3 81 [.slice A l.length c0], .blk g2 25 [vc]]) ?_ ?_
          ·refine d_startH T.mixed ?_
           refine d_tv 0 rfl rfl (by kernel_rfl) rfl (.refl _) rfl (v_fieldAddr he rfl) ?_
           refine d_tv 1 rfl rfl (by kernel_rfl) rfl (.refl _) rfl (v_ld m1 he rfl rfl) ?_
           refine d_tv 2 rfl rfl (by kernel_rfl) rfl (.refl _) rfl (v_move rfl) ?_
           obtain ⟨b103, o103, w103, e103, c103, r103⟩ := RdA.at_ hA (i := m) hlm
           obtain ⟨q103, rfl, B103, d103, rfl, hB103, hd103, hm103⟩ := r103
           refine d_tv 3 rfl rfl (by kernel_rfl) rfl (.refl _) rfl (v_idx he rfl rfl e103 (m) (by omega) hlm) ?_
           refine d_tv 4 rfl rfl (by kernel_rfl) rfl (.refl _) rfl (v_fieldAddr he rfl) ?_
           refine d_tv 5 rfl rfl (by kernel_rfl) rfl (.refl _) rfl (v_ldI he rfl (c103 2 _ rfl)) ?_
           refine d_tv 6 rfl rfl (by kernel_rfl) rfl (.refl _) rfl (v_fieldAddr he rfl) ?_
           refine d_tv 7 rfl rfl (by kernel_rfl) rfl (.refl _) rfl (v_ld m0 he rfl rfl) ?_
           refine d_tv 8 rfl rfl (by kernel_rfl) rfl (.refl _) rfl (v_seql rfl rfl) ?_
           refine d_tv 9 rfl rfl (by kernel_rfl) rfl (.refl _) rfl (v_move rfl) ?_
           refine sxb 109 rfl (fun h109 p109 => ?_) (fun h109 p109 => ?_)
           ·refine d_t 10 rfl rfl (by kernel_rfl) rfl (fun _ m => m.keeps (.refl _)) (y_yes rfl rfl h109 (v_fieldAddr he rfl)) ?_
            refine d_t 11 rfl rfl (by kernel_rfl) rfl (fun _ m => m.keeps (.refl _)) (y_yes rfl rfl h109 (v_ld m1 he rfl rfl)) ?_
            refine d_t 12 rfl rfl (by kernel_rfl) rfl (fun _ m => m.keeps (.refl _)) (y_yes rfl rfl h109 (v_move rfl)) ?_
            obtain ⟨b113, o113, w113, e113, c113, r113⟩ := RdA.at_ hA (i := m) hlm
            obtain ⟨q113, rfl, B113, d113, rfl, hB113, hd113, hm113⟩ := r113
            refine d_t 13 rfl rfl (by kernel_rfl) rfl (fun _ m => m.keeps (.refl _)) (y_yes rfl rfl h109 (v_idx he rfl rfl e113 (m) (by omega) hlm)) ?_
            refine d_t 14 rfl rfl (by kernel_rfl) rfl (fun _ m => m.keeps (.refl _)) (y_yes rfl rfl h109 (v_fieldAddr he rfl)) ?_
            refine d_t 15 rfl rfl (by kernel_rfl) rfl (fun _ m => m.keeps (.refl _)) (y_yes rfl rfl h109 (v_ldI he rfl (c113 3 _ rfl))) ?_
            refine d_t 16 rfl rfl (by kernel_rfl) rfl (fun _ m => m.keeps (.refl _)) (y_yes rfl rfl h109 (v_fieldAddr he rfl)) ?_
            refine d_t 17 rfl rfl (by kernel_rfl) rfl (fun _ m => m.keeps (.refl _)) (y_yes rfl rfl h109 (v_ld m0 he rfl rfl)) ?_
            refine d_t 18 rfl rfl (by kernel_rfl) rfl (fun _ m => m.keeps (.refl _)) (y_yes rfl rfl h109 (v_seql rfl rfl)) ?_
            refine d_tv 19 rfl rfl (by kernel_rfl) rfl (.refl _) rfl (v_and_t h109 rfl rfl) ?_
            refine d_done (by kernel_rfl) ?_
            refine go 1 ?_
            exact q_cut ⟨rfl, rfl, rfl, rfl, rfl, (congrArg (fun b => some (Value.bool b)) (by simp only [clash, h97, h109, bS])), trivial⟩ rfl rfl
           ·refine d_t 10 rfl rfl (by kernel_rfl) rfl (fun _ m => m.keeps (.refl _)) (y_no rfl rfl h109) ?_
            refine d_t 11 rfl rfl (by kernel_rfl) rfl (fun _ m => m.keeps (.refl _)) (y_no rfl rfl h109) ?_
            refine d_t 12 rfl rfl (by kernel_rfl) rfl (fun _ m => m.keeps (.refl _)) (y_no rfl rfl h109) ?_
            refine d_t 13 rfl rfl (by kernel_rfl) rfl (fun _ m => m.keeps (.refl _)) (y_no rfl rfl h109) ?_
            refine d_t 14 rfl rfl (by kernel_rfl) rfl (fun _ m => m.keeps (.refl _)) (y_no rfl rfl h109) ?_
            refine d_t 15 rfl rfl (by kernel_rfl) rfl (fun _ m => m.keeps (.refl _)) (y_no rfl rfl h109) ?_
            refine d_t 16 rfl rfl (by kernel_rfl) rfl (fun _ m => m.keeps (.refl _)) (y_no rfl rfl h109) ?_
            refine d_t 17 rfl rfl (by kernel_rfl) rfl (fun _ m => m.keeps (.refl _)) (y_no rfl rfl h109) ?_
            refine d_t 18 rfl rfl (by kernel_rfl) rfl (fun _ m => m.keeps (.refl _)) (y_no rfl rfl h109) ?_
            refine d_tv 19 rfl rfl (by kernel_rfl) rfl (.refl _) rfl (v_and_f h109 rfl) ?_
            refine d_done (by kernel_rfl) ?_
            refine go 1 ?_
            exact q_cut ⟨rfl, rfl, rfl, rfl, rfl, (congrArg (fun b => some (Value.bool b)) (by simp only [clash, h97, h109, bS])), trivial⟩ rfl rfl
          ·refine cb rfl (fun h119 p119 => ?_) (fun h119 p119 => ?_)
           ·refine go 15 ?_
            refine fin1 rfl rfl ?_
            exact q_v (congrArg Value.bool (by rw [← validSR_eq]; simp only [validSR, h17, allP_not (f := partR c l) hlt (show partR c l (l.take i) l[i] = false by simp only [partR, h58, h61, h94, seat_hit (m := m) (i := i) (by omega) hlm h119]; rfl), bS]))
           ·refine go 9 ?_
            exact q_next (m + 1) ⟨by omega, idx_next hq (show m < l.length by omega) h119⟩ (by omega) rfl sb rfl
         ·refine go 12 ?_
          refine sx_drop ?_
          exact q_next (i + 1) ⟨by omega, allP_succ hn hlt (by have := seat_end hq (by omega : i ≤ m); simp only [partR, h58, h61, h94, this]; rfl)⟩ (by omega) rfl sb rfl
   ·refine go 11 ?_
    refine fin1 rfl rfl ?_
    have e : i = l.length := (by omega)
    subst e
    exact q_v (congrArg Value.bool (by rw [← validSR_eq]; simp only [validSR, hn, h17]; rfl))

end Go.Proofs.YtdkjmaoelojpeaaGreat

/- Walks, printed by a program out of the code of the functions: each theorem is a contract of one function. -/
namespace Go.Proofs.YtdkjmaoelojpeaaGreat
open Go Go.Sx
set_option linter.all false
set_option maxRecDepth 20000
set_option maxHeartbeats 4000000
theorem ref10with (I : IMap) (v : Value) (l : List Part) (hv : RdS I v l) (hl : l.length ≤ 1000000) (x : Part) (B : Option Addr) (d : Nat) (hr : Enc.rd I (x.cells (.slice B x.props.length d)) x) :
    FnI Tryz.prog 148 #[.agg #[v], .agg (x.cells (.slice B x.props.length d)).toArray] I (fun u J => ∃ w, u = .agg #[w] ∧ RdS J w (withF Part.name x l)) := by
 obtain ⟨A, c0, rfl, hA, hc, hm⟩ := hv
 refine enter Tryz.func148 Tryz.call148 rfl Tryz.ntmps148 rfl (fun w0 => ?_)
 refine go 3 ?_
 refine o_box _ rfl rfl rfl (fun g2 => ?_)
 refine go 1 ?_
 refine o_box _ rfl rfl rfl (fun g3 => ?_)
 refine go 1 ?_
 refine o_alloc he rfl (fun g4 => ?_)
 refine go 5 ?_
 refine o_alloc he rfl (fun g5 => ?_)
 refine go 4 ?_
 refine sx_nilrow 89 14 ?_
 refine go 10 ?_
 refine c_loop5 ((0 : Nat)) (_) ([]) (_) ([]) (fun i v xs b out => I)
  (fun i v xs b out => [(2, .pointer (some ⟨g2, 0, none⟩)), (3, .pointer (some ⟨g3, 0, none⟩)), (4, .pointer (some ⟨g4, 0, none⟩)), (5, .pointer (some ⟨g5, 0, none⟩)), (6, .bool b), (7, .int .i64 ((i : Nat) : Int))])
  (fun i v xs b out => [.row v 89 14 out.length xs, .blk g5 81 [v], .blk g4 81 [.slice none 0 0], .blk g3 89 (x.cells (.slice B x.props.length d)), .blk g2 81 [.slice A l.length c0]])
  (fun i v xs b out => i ≤ l.length ∧ wF Part.name x (l.take i) = (out, b) ∧ Flat I xs out)
  (fun i v xs b out => l.length - i) ⟨Nat.zero_le _, rfl, .nil⟩ rfl sb rfl ?_
 intro i v xs b out ⟨hi, hw, hF⟩
 have hol := w_le hw
 refine go 10 ?_
 refine cb rfl (fun h12 p12 => ?_) (fun h12 p12 => ?_)
 ·have hlt : i < l.length := by omega
  refine go 6 ?_
  refine d_startH T.mixed ?_
  refine d_tv 0 rfl rfl (by kernel_rfl) rfl (.refl _) rfl (v_move rfl) ?_
  refine d_tv 1 rfl rfl (by kernel_rfl) rfl (.refl _) rfl (v_not rfl) ?_
  refine d_tv 2 rfl rfl (by kernel_rfl) rfl (.refl _) rfl (v_move rfl) ?_
  refine sxb 17 rfl (fun h17 p17 => ?_) (fun h17 p17 => ?_)
  ·refine d_t 3 rfl rfl (by kernel_rfl) rfl (fun _ m => m.keeps (.refl _)) (y_yes rfl rfl h17 (v_fieldAddr he rfl)) ?_
   refine d_t 4 rfl rfl (by kernel_rfl) rfl (fun _ m => m.keeps (.refl _)) (y_yes rfl rfl h17 (v_ld m4 he rfl rfl)) ?_
   refine d_t 5 rfl rfl (by kernel_rfl) rfl (fun _ m => m.keeps (.refl _)) (y_yes rfl rfl h17 (v_move rfl)) ?_
   obtain ⟨b21, o21, w21, e21, c21, r21⟩ := RdA.at_ hA (i := i) hlt
   obtain ⟨q21, rfl, B21, d21, rfl, hB21, hd21, hm21⟩ := r21
   refine d_t 6 rfl rfl (by kernel_rfl) rfl (fun _ m => m.keeps (.refl _)) (y_yes rfl rfl h17 (v_idx he rfl rfl e21 (i) (by omega) hlt)) ?_
   refine d_t 7 rfl rfl (by kernel_rfl) rfl (fun _ m => m.keeps (.refl _)) (y_yes rfl rfl h17 (v_fieldAddr he rfl)) ?_
   refine d_t 8 rfl rfl (by kernel_rfl) rfl (fun _ m => m.keeps (.refl _)) (y_yes rfl rfl h17 (v_ldI he rfl (c21 0 _ rfl))) ?_
   refine d_t 9 rfl rfl (by kernel_rfl) rfl (fun _ m => m.keeps (.refl _)) (y_yes rfl rfl h17 (v_fieldAddr he rfl)) ?_
   refine d_t 10 rfl rfl (by kernel_rfl) rfl (fun _ m => m.keeps (.refl _)) (y_yes rfl rfl h17 (v_ld m3 he rfl rfl)) ?_
   refine d_t 11 rfl rfl (by kernel_rfl) rfl (fun _ m => m.keeps (.refl _)) (y_yes rfl rfl h17 (v_sgeq rfl rfl)) ?_
   refine d_tv 12 rfl rfl (by kernel_rfl) rfl (.refl _) rfl (v_and_t h17 rfl rfl) ?_
   refine d_done (by kernel_rfl) ?_
   refine go 1 ?_
   refine cb rfl (fun h27 p27 => ?_) (fun h27 p27 => ?_)
   ·refine go 6 ?_
    refine o_buildSlice he he rfl rfl rfl rfl rfl rfl rfl (fun v31 => ?_)
    refine go 1 ?_
    refine bring1 ?_
    refine o_appendO he he rfl rfl rfl rfl rfl (by omega) (by omega) rfl (fun v32 => ?_)
    refine sx_row1 (fun u => ?_)
    refine go 2 ?_
    refine bring2 ?_
    refine o_st1 he rfl rfl u rfl ?_
    refine go 7 ?_
    refine d_startH T.mixed ?_
    refine d_tv 0 rfl rfl (by kernel_rfl) rfl (.refl _) rfl (v_fieldAddr he rfl) ?_
    refine d_tv 1 rfl rfl (by kernel_rfl) rfl (.refl _) rfl (v_ld m5 he rfl rfl) ?_
    refine d_tv 2 rfl rfl (by kernel_rfl) rfl (.refl _) rfl (v_move rfl) ?_
    obtain ⟨b37, o37, w37, e37, c37, r37⟩ := RdA.at_ hA (i := i) hlt
    obtain ⟨q37, rfl, B37, d37, rfl, hB37, hd37, hm37⟩ := r37
    refine d_tv 3 rfl rfl (by kernel_rfl) rfl (.refl _) rfl (v_idx he rfl rfl e37 (i) (by omega) hlt) ?_
    refine d_tv 4 rfl rfl (by kernel_rfl) rfl (.refl _) rfl (v_fieldAddr he rfl) ?_
    refine d_tv 5 rfl rfl (by kernel_rfl) rfl (.refl _) rfl (v_ldI he rfl (c37 0 _ rfl)) ?_
    refine d_tv 6 rfl rfl (by kernel_rfl) rfl (.refl _) rfl (v_fieldAddr he rfl) ?_
    refine d_tv 7 rfl rfl (by kernel_rfl) rfl (.refl _) rfl (v_ld m4 he rfl rfl) ?_
    refine d_tv 8 rfl rfl (by kernel_rfl) rfl (.refl _) rfl (v_sneq rfl rfl) ?_
    refine d_done (by kernel_rfl) ?_
    refine go 1 ?_
    refine cb rfl (fun h42 p42 => ?_) (fun h42 p42 => ?_)
    ·refine bring1 ?_
     refine d_start2 T.mixed ?_
     refine d_tv 0 rfl rfl (by kernel_rfl) rfl (.cons _ (.cons _ (.refl _))) rfl (v_fieldAddr he rfl) ?_
     refine d_tv 2 rfl rfl (by kernel_rfl) rfl (.cons _ (.cons _ (.refl _))) rfl (v_fieldAddr he rfl) ?_
     refine d_tv 3 rfl rfl (by kernel_rfl) rfl (.cons _ (.cons _ (.refl _))) rfl (v_ld m3 he rfl rfl) ?_
     refine d_tv 4 rfl rfl (by kernel_rfl) rfl (.cons _ (.cons _ (.refl _))) rfl (v_move rfl) ?_
     obtain ⟨b48, o48, w48, e48, c48, r48⟩ := RdA.at_ hA (i := i) hlt
     obtain ⟨q48, rfl, B48, d48, rfl, hB48, hd48, hm48⟩ := r48
     refine d_tv 5 rfl rfl (by kernel_rfl) rfl (.cons _ (.cons _ (.refl _))) rfl (v_idx he rfl rfl e48 (i) (by omega) hlt) ?_
     refine d_tv 6 rfl rfl (by kernel_rfl) rfl (.cons _ (.cons _ (.refl _))) rfl (v_ldIa he rfl c48 rfl) ?_
     refine d_two 1 7 (by kernel_rfl) rfl rfl ?_ ?_
     ·refine o_val rfl (v_ld m1 he rfl rfl) ?_
      refine d_on (fun _ m => m.keeps (.cons _ (.cons _ (.refl _)))) ?_
      refine d_one 7 (by kernel_rfl) rfl ?_
      refine o_buildSlice he he rfl rfl rfl rfl rfl rfl rfl (fun v50 => ?_)
      refine d_on (fun _ m => m.keeps (.cons _ (.cons _ (.cons _ (.refl _))))) ?_
      refine d_one 8 (by kernel_rfl) rfl ?_
      refine bring1 ?_
      refine o_appendO he he rfl rfl rfl rfl rfl (by omega) (by omega) rfl (fun v51 => ?_)
      refine sx_row1 (fun u => ?_)
      refine d_on (fun _ m => m.keeps (.cons _ (.cons _ (.cons _ (.refl _))))) ?_
      refine d_tv 9 rfl rfl (by kernel_rfl) rfl (.cons _ (.cons _ (.cons _ (.refl _)))) rfl (v_fieldAddr he rfl) ?_
      refine d_one 10 (by kernel_rfl) rfl ?_
      refine bring2 ?_
      refine o_st1 he rfl rfl u rfl ?_
      refine d_on (fun _ m => m.keeps (.cons _ (.cons _ (.cons _ (.refl _))))) ?_
      refine d_done (by kernel_rfl) ?_
      refine go 8 ?_
      refine bring2 ?_
      refine sx_drop ?_
      refine bring2 ?_
      refine sx_drop ?_
      refine bring4 ?_
      refine bring4 ?_
      refine bring4 ?_
      refine bring3 ?_
      refine bring4 ?_
      exact q_next5 (i + 1) (_) (_) (_) (out ++ [x] ++ [l[i]]) ⟨by omega, wF_tt hlt hw h17 h27 h42, (hF.append (.one hr)).append (.one ⟨_, rfl, B48, d48, rfl, hB48, hd48, hm48⟩)⟩ (by omega) rfl sb (by first | rfl | (simp only [List.length_append, List.length_singleton]; rfl) | simp only [List.length_append, List.length_singleton])
     ·refine o_buildSlice he he rfl rfl rfl rfl rfl rfl rfl (fun v50 => ?_)
      refine d_on (fun _ m => m.keeps (.cons _ (.cons _ (.cons _ (.refl _))))) ?_
      refine d_one 1 (by kernel_rfl) rfl ?_
      refine o_val rfl (v_ld m2 he rfl rfl) ?_
      refine d_on (fun _ m => m.keeps (.cons _ (.cons _ (.cons _ (.refl _))))) ?_
      refine d_one 8 (by kernel_rfl) rfl ?_
      refine bring1 ?_
      refine o_appendO he he rfl rfl rfl rfl rfl (by omega) (by omega) rfl (fun v51 => ?_)
      refine sx_row1 (fun u => ?_)
      refine d_on (fun _ m => m.keeps (.cons _ (.cons _ (.cons _ (.refl _))))) ?_
      refine d_tv 9 rfl rfl (by kernel_rfl) rfl (.cons _ (.cons _ (.cons _ (.refl _)))) rfl (v_fieldAddr he rfl) ?_
      refine d_one 10 (by kernel_rfl) rfl ?_
      refine bring2 ?_
      refine o_st1 he rfl rfl u rfl ?_
      refine d_on (fun _ m => m.keeps (.cons _ (.cons _ (.cons _ (.refl _))))) ?_
      refine d_done (by kernel_rfl) ?_
      refine go 8 ?_
      refine bring2 ?_
      refine sx_drop ?_
      refine bring2 ?_
      refine sx_drop ?_
      refine bring4 ?_
      refine bring4 ?_
      refine bring4 ?_
      refine bring3 ?_
      refine bring4 ?_
      exact q_next5 (i + 1) (_) (_) (_) (out ++ [x] ++ [l[i]]) ⟨by omega, wF_tt hlt hw h17 h27 h42, (hF.append (.one hr)).append (.one ⟨_, rfl, B48, d48, rfl, hB48, hd48, hm48⟩)⟩ (by omega) rfl sb (by first | rfl | (simp only [List.length_append, List.length_singleton]; rfl) | simp only [List.length_append, List.length_singleton])
    ·refine go 9 ?_
     refine bring2 ?_
     refine sx_drop ?_
     refine bring4 ?_
     refine bring4 ?_
     refine bring4 ?_
     refine bring3 ?_
     refine bring4 ?_
     exact q_next5 (i + 1) (_) (_) (_) (out ++ [x]) ⟨by omega, wF_tf hlt hw h17 h27 h42, hF.append (.one hr)⟩ (by omega) rfl sb (by first | rfl | (simp only [List.length_append, List.length_singleton]; rfl) | simp only [List.length_append, List.length_singleton])
   ·refine go 3 ?_
    refine d_startH T.mixed ?_
    refine d_tv 0 rfl rfl (by kernel_rfl) rfl (.refl _) rfl (v_fieldAddr he rfl) ?_
    refine d_tv 1 rfl rfl (by kernel_rfl) rfl (.refl _) rfl (v_ld m4 he rfl rfl) ?_
    refine d_tv 2 rfl rfl (by kernel_rfl) rfl (.refl _) rfl (v_move rfl) ?_
    obtain ⟨b37, o37, w37, e37, c37, r37⟩ := RdA.at_ hA (i := i) hlt
    obtain ⟨q37, rfl, B37, d37, rfl, hB37, hd37, hm37⟩ := r37
    refine d_tv 3 rfl rfl (by kernel_rfl) rfl (.refl _) rfl (v_idx he rfl rfl e37 (i) (by omega) hlt) ?_
    refine d_tv 4 rfl rfl (by kernel_rfl) rfl (.refl _) rfl (v_fieldAddr he rfl) ?_
    refine d_tv 5 rfl rfl (by kernel_rfl) rfl (.refl _) rfl (v_ldI he rfl (c37 0 _ rfl)) ?_
    refine d_tv 6 rfl rfl (by kernel_rfl) rfl (.refl _) rfl (v_fieldAddr he rfl) ?_
    refine d_tv 7 rfl rfl (by kernel_rfl) rfl (.refl _) rfl (v_ld m3 he rfl rfl) ?_
    refine d_tv 8 rfl rfl (by kernel_rfl) rfl (.refl _) rfl (v_sneq rfl rfl) ?_
    refine d_done (by kernel_rfl) ?_
    refine go 1 ?_
    refine cb rfl (fun h42 p42 => ?_) (fun h42 p42 => ?_)
    ·refine bring1 ?_
     refine bring1 ?_
     refine d_start2 T.mixed ?_
     refine d_tv 0 rfl rfl (by kernel_rfl) rfl (.cons _ (.cons _ (.refl _))) rfl (v_fieldAddr he rfl) ?_
     refine d_tv 2 rfl rfl (by kernel_rfl) rfl (.cons _ (.cons _ (.refl _))) rfl (v_fieldAddr he rfl) ?_
     refine d_tv 3 rfl rfl (by kernel_rfl) rfl (.cons _ (.cons _ (.refl _))) rfl (v_ld m2 he rfl rfl) ?_
     refine d_tv 4 rfl rfl (by kernel_rfl) rfl (.cons _ (.cons _ (.refl _))) rfl (v_move rfl) ?_
     obtain ⟨b48, o48, w48, e48, c48, r48⟩ := RdA.at_ hA (i := i) hlt
     obtain ⟨q48, rfl, B48, d48, rfl, hB48, hd48, hm48⟩ := r48
     refine d_tv 5 rfl rfl (by kernel_rfl) rfl (.cons _ (.cons _ (.refl _))) rfl (v_idx he rfl rfl e48 (i) (by omega) hlt) ?_
     refine d_tv 6 rfl rfl (by kernel_rfl) rfl (.cons _ (.cons _ (.refl _))) rfl (v_ldIa he rfl c48 rfl) ?_
     refine d_two 1 7 (by kernel_rfl) rfl rfl ?_ ?_
     ·refine o_val rfl (v_ld m1 he rfl rfl) ?_
      refine d_on (fun _ m => m.keeps (.cons _ (.cons _ (.refl _)))) ?_
      refine d_one 7 (by kernel_rfl) rfl ?_
      refine o_buildSlice he he rfl rfl rfl rfl rfl rfl rfl (fun v50 => ?_)
      refine d_on (fun _ m => m.keeps (.cons _ (.cons _ (.cons _ (.refl _))))) ?_
      refine d_one 8 (by kernel_rfl) rfl ?_
      refine bring1 ?_
      refine o_appendO he he rfl rfl rfl rfl rfl (by omega) (by omega) rfl (fun v51 => ?_)
      refine sx_row1 (fun u => ?_)
      refine d_on (fun _ m => m.keeps (.cons _ (.cons _ (.cons _ (.refl _))))) ?_
      refine d_tv 9 rfl rfl (by kernel_rfl) rfl (.cons _ (.cons _ (.cons _ (.refl _)))) rfl (v_fieldAddr he rfl) ?_
      refine d_one 10 (by kernel_rfl) rfl ?_
      refine bring2 ?_
      refine o_st1 he rfl rfl u rfl ?_
      refine d_on (fun _ m => m.keeps (.cons _ (.cons _ (.cons _ (.refl _))))) ?_
      refine d_done (by kernel_rfl) ?_
      refine go 8 ?_
      refine bring2 ?_
      refine sx_drop ?_
      refine bring4 ?_
      refine bring4 ?_
      refine bring4 ?_
      refine bring3 ?_
      refine bring4 ?_
      exact q_next5 (i + 1) (_) (_) (_) (out ++ [l[i]]) ⟨by omega, wF_ft hlt hw (by rw [h17, h27]; rfl) h42, hF.append (.one ⟨_, rfl, B48, d48, rfl, hB48, hd48, hm48⟩)⟩ (by omega) rfl sb (by first | rfl | (simp only [List.length_append, List.length_singleton]; rfl) | simp only [List.length_append, List.length_singleton])
     ·refine o_buildSlice he he rfl rfl rfl rfl rfl rfl rfl (fun v50 => ?_)
      refine d_on (fun _ m => m.keeps (.cons _ (.cons _ (.cons _ (.refl _))))) ?_
      refine d_one 1 (by kernel_rfl) rfl ?_
      refine o_val rfl (v_ld m2 he rfl rfl) ?_
      refine d_on (fun _ m => m.keeps (.cons _ (.cons _ (.cons _ (.refl _))))) ?_
      refine d_one 8 (by kernel_rfl) rfl ?_
      refine bring1 ?_
      refine o_appendO he he rfl rfl rfl rfl rfl (by omega) (by omega) rfl (fun v51 => ?_)
      refine sx_row1 (fun u => ?_)
      refine d_on (fun _ m => m.keeps (.cons _ (.cons _ (.cons _ (.refl _))))) ?_
      refine d_tv 9 rfl rfl (by kernel_rfl) rfl (.cons _ (.cons _ (.cons _ (.refl _)))) rfl (v_fieldAddr he rfl) ?_
      refine d_one 10 (by kernel_rfl) rfl ?_
      refine bring2 ?_
      refine o_st1 he rfl rfl u rfl ?_
      refine d_on (fun _ m => m.keeps (.cons _ (.cons _ (.cons _ (.refl _))))) ?_
      refine d_done (by kernel_rfl) ?_
      refine go 8 ?_
      refine bring2 ?_
      refine sx_drop ?_
      refine bring4 ?_
      refine bring4 ?_
      refine bring4 ?_
      refine bring3 ?_
      refine bring4 ?_
      exact q_next5 (i + 1) (_) (_) (_) (out ++ [l[i]]) ⟨by omega, wF_ft hlt hw (by rw [h17, h27]; rfl) h42, hF.append (.one ⟨_, rfl, B48, d48, rfl, hB48, hd48, hm48⟩)⟩ (by omega) rfl sb (by first | rfl | (simp only [List.length_append, List.length_singleton]; rfl) | simp only [List.length_append, List.length_singleton])
    ·refine go 9 ?_
     exact q_next5 (i + 1) (_) (_) (_) (out) ⟨by omega, wF_ff hlt hw (by rw [h17, h27]; rfl) h42, hF⟩ (by omega) rfl sb (by first | rfl | (simp only [List.length_append, List.length_singleton]; rfl) | simp only [List.length_append, List.length_singleton])
  ·refine d_t 3 rfl rfl (by kernel_rfl) rfl (fun _ m => m.keeps (.refl _)) (y_no rfl rfl h17) ?_
   refine d_t 4 rfl rfl (by kernel_rfl) rfl (fun _ m => m.keeps (.refl _)) (y_no rfl rfl h17) ?_
   refine d_t 5 rfl rfl (by kernel_rfl) rfl (fun _ m => m.keeps (.refl _)) (y_no rfl rfl h17) ?_
   refine d_t 6 rfl rfl (by kernel_rfl) rfl (fun _ m => m.keeps (.refl _)) (y_no rfl rfl h17) ?_
   refine d_t 7 rfl rfl (by kernel_rfl) rfl (fun _ m => m.keeps (.refl _)) (y_no rfl rfl h17) ?_
   refine d_t 8 rfl rfl (by kernel_rfl) rfl (fun _ m => m.keeps (.refl _)) (y_no rfl rfl h17) ?_
   refine d_t 9 rfl rfl (by kernel_rfl) rfl (fun _ m => m.keeps (.refl _)) (y_no rfl rfl h17) ?_
   refine d_t 10 rfl rfl (by kernel_rfl) rfl (fun _ m => m.keeps (.refl _)) (y_no rfl rfl h17) ?_
   refine d_t 11 rfl rfl (by kernel_rfl) rfl (fun _ m => m.keeps (.refl _)) (y_no rfl rfl h17) ?_
   refine d_tv 12 rfl rfl (by kernel_rfl) rfl (.refl _) rfl (v_and_f h17 rfl) ?_
   refine d_done (by kernel_rfl) ?_
   refine go 1 ?_
   refine c_false rfl ?_
   refine go 3 ?_
   refine d_startH T.mixed ?_
   refine d_tv 0 rfl rfl (by kernel_rfl) rfl (.refl _) rfl (v_fieldAddr he rfl) ?_
   refine d_tv 1 rfl rfl (by kernel_rfl) rfl (.refl _) rfl (v_ld m4 he rfl rfl) ?_
   refine d_tv 2 rfl rfl (by kernel_rfl) rfl (.refl _) rfl (v_move rfl) ?_
   obtain ⟨b37, o37, w37, e37, c37, r37⟩ := RdA.at_ hA (i := i) hlt
   obtain ⟨q37, rfl, B37, d37, rfl, hB37, hd37, hm37⟩ := r37
   refine d_tv 3 rfl rfl (by kernel_rfl) rfl (.refl _) rfl (v_idx he rfl rfl e37 (i) (by omega) hlt) ?_
   refine d_tv 4 rfl rfl (by kernel_rfl) rfl (.refl _) rfl (v_fieldAddr he rfl) ?_
   refine d_tv 5 rfl rfl (by kernel_rfl) rfl (.refl _) rfl (v_ldI he rfl (c37 0 _ rfl)) ?_
   refine d_tv 6 rfl rfl (by kernel_rfl) rfl (.refl _) rfl (v_fieldAddr he rfl) ?_
   refine d_tv 7 rfl rfl (by kernel_rfl) rfl (.refl _) rfl (v_ld m3 he rfl rfl) ?_
   refine d_tv 8 rfl rfl (by kernel_rfl) rfl (.refl _) rfl (v_sneq rfl rfl) ?_
   refine d_done (by kernel_rfl) ?_
   refine go 1 ?_
   refine cb rfl (fun h42 p42 => ?_) (fun h42 p42 => ?_)
   ·refine bring1 ?_
    refine bring1 ?_
    refine d_start2 T.mixed ?_
    refine d_tv 0 rfl rfl (by kernel_rfl) rfl (.cons _ (.cons _ (.refl _))) rfl (v_fieldAddr he rfl) ?_
    refine d_tv 2 rfl rfl (by kernel_rfl) rfl (.cons _ (.cons _ (.refl _))) rfl (v_fieldAddr he rfl) ?_
    refine d_tv 3 rfl rfl (by kernel_rfl) rfl (.cons _ (.cons _ (.refl _))) rfl (v_ld m2 he rfl rfl) ?_
    refine d_tv 4 rfl rfl (by kernel_rfl) rfl (.cons _ (.cons _ (.refl _))) rfl (v_move rfl) ?_
    obtain ⟨b48, o48, w48, e48, c48, r48⟩ := RdA.at_ hA (i := i) hlt
    obtain ⟨q48, rfl, B48, d48, rfl, hB48, hd48, hm48⟩ := r48
    refine d_tv 5 rfl rfl (by kernel_rfl) rfl (.cons _ (.cons _ (.refl _))) rfl (v_idx he rfl rfl e48 (i) (by omega) hlt) ?_
    refine d_tv 6 rfl rfl (by kernel_rfl) rfl (.cons _ (.cons _ (.refl _))) rfl (v_ldIa he rfl c48 rfl) ?_
    refine d_two 1 7 (by kernel_rfl) rfl rfl ?_ ?_
    ·refine o_val rfl (v_ld m1 he rfl rfl) ?_
     refine d_on (fun _ m => m.keeps (.cons _ (.cons _ (.refl _)))) ?_
     refine d_one 7 (by kernel_rfl) rfl ?_
     refine o_buildSlice he he rfl rfl rfl rfl rfl rfl rfl (fun v50 => ?_)
     refine d_on (fun _ m => m.keeps (.cons _ (.cons _ (.cons _ (.refl _))))) ?_
     refine d_one 8 (by kernel_rfl) rfl ?_
     refine bring1 ?_
     refine o_appendO he he rfl rfl rfl rfl rfl (by omega) (by omega) rfl (fun v51 => ?_)
     refine sx_row1 (fun u => ?_)
     refine d_on (fun _ m => m.keeps (.cons _ (.cons _ (.cons _ (.refl _))))) ?_
     refine d_tv 9 rfl rfl (by kernel_rfl) rfl (.cons _ (.cons _ (.cons _ (.refl _)))) rfl (v_fieldAddr he rfl) ?_
     refine d_one 10 (by kernel_rfl) rfl ?_
     refine bring2 ?_
     refine o_st1 he rfl rfl u rfl ?_
     refine d_on (fun _ m => m.keeps (.cons _ (.cons _ (.cons _ (.refl _))))) ?_
     refine d_done (by kernel_rfl) ?_
     refine go 8 ?_
     refine bring2 ?_
     refine sx_drop ?_
     refine bring4 ?_
     refine bring4 ?_
     refine bring4 ?_
     refine bring3 ?_
     refine bring4 ?_
     exact q_next5 (i + 1) (_) (_) (_) (out ++ [l[i]]) ⟨by omega, wF_ft hlt hw (by rw [h17]; rfl) h42, hF.append (.one ⟨_, rfl, B48, d48, rfl, hB48, hd48, hm48⟩)⟩ (by omega) rfl sb (by first | rfl | (simp only [List.length_append, List.length_singleton]; rfl) | simp only [List.length_append, List.length_singleton])
    ·refine o_buildSlice he he rfl rfl rfl rfl rfl rfl rfl (fun v50 => ?_)
     refine d_on (fun _ m => m.keeps (.cons _ (.cons _ (.cons _ (.refl _))))) ?_
     refine d_one 1 (by kernel_rfl) rfl ?_
     refine o_val rfl (v_ld m2 he rfl rfl) ?_
     refine d_on (fun _ m => m.keeps (.cons _ (.cons _ (.cons _ (.refl _))))) ?_
     refine d_one 8 (by kernel_rfl) rfl ?_
     refine bring1 ?_
     refine o_appendO he he rfl rfl rfl rfl rfl (by omega) (by omega) rfl (fun v51 => ?_)
     refine sx_row1 (fun u => ?_)
     refine d_on (fun _ m => m.keeps (.cons _ (.cons _ (.cons _ (.refl _))))) ?_
     refine d_tv 9 rfl rfl (by kernel_rfl) rfl (.cons _ (.cons _ (.cons _ (.refl _)))) rfl (v_fieldAddr he rfl) ?_
     refine d_one 10 (by kernel_rfl) rfl ?_
     refine bring2 ?_
     refine o_st1 he rfl rfl u rfl ?_
     refine d_on (fun _ m => m.keeps (.cons _ (.cons _ (.cons _ (.refl _))))) ?_
     refine d_done (by kernel_rfl) ?_
     refine go 8 ?_
     refine bring2 ?_
     refine sx_drop ?_
     refine bring4 ?_
     refine bring4 ?_
     refine bring4 ?_
     refine bring3 ?_
     refine bring4 ?_
     exact q_next5 (i + 1) (_) (_) (_) (out ++ [l[i]]) ⟨by omega, wF_ft hlt hw (by rw [h17]; rfl) h42, hF.append (.one ⟨_, rfl, B48, d48, rfl, hB48, hd48, hm48⟩)⟩ (by omega) rfl sb (by first | rfl | (simp only [List.length_append, List.length_singleton]; rfl) | simp only [List.length_append, List.length_singleton])
   ·refine go 9 ?_
    exact q_next5 (i + 1) (_) (_) (_) (out) ⟨by omega, wF_ff hlt hw (by rw [h17]; rfl) h42, hF⟩ (by omega) rfl sb (by first | rfl | (simp only [List.length_append, List.length_singleton]; rfl) | simp only [List.length_append, List.length_singleton])
 ·have e : i = l.length := (by omega)
  subst e
  rw [List.take_length] at hw
  refine sx_row1 (fun u => ?_)
  refine go 12 ?_
  refine cb rfl (fun h54 p54 => ?_) (fun h54 p54 => ?_)
  ·refine go 5 ?_
   refine o_buildSlice he he rfl rfl rfl rfl rfl rfl rfl (fun v58 => ?_)
   refine go 1 ?_
   refine bring1 ?_
   refine o_appendO he he rfl rfl rfl rfl rfl (by omega) (by omega) rfl (fun v59 => ?_)
   refine sx_row1 (fun u => ?_)
   refine go 2 ?_
   refine bring2 ?_
   refine o_st1 he rfl rfl u rfl ?_
   refine go 6 ?_
   refine bring3 ?_
   refine o_stw _ he rfl rfl rfl rfl rfl (row_all u) ?_
   refine go 3 ?_
   refine fin1 rfl ⟨_, _, _, rfl, m0, .inr ⟨_, he, rfl, rfl⟩⟩ ?_
   refine sx_drop ?_
   refine sx_drop ?_
   refine bring1 ?_
   refine sx_drop ?_
   refine bring1 ?_
   refine sx_drop ?_
   refine bring1 ?_
   refine sx_drop ?_
   refine sx_pubrow (l := out ++ [x]) rfl (by simp) (hF.append (.one hr)) (fun I9 j9 R9 => ?_)
   exact q_i ⟨_, rfl, by rw [with_t hw h54]; exact R9⟩
  ·refine go 6 ?_
   refine bring2 ?_
   refine o_stw _ he rfl rfl rfl rfl rfl (row_all u) ?_
   refine go 3 ?_
   refine fin1 rfl ⟨_, _, _, rfl, m0, .inr ⟨_, he, rfl, rfl⟩⟩ ?_
   refine sx_drop ?_
   refine bring1 ?_
   refine sx_drop ?_
   refine bring1 ?_
   refine sx_drop ?_
   refine bring1 ?_
   refine sx_drop ?_
   refine sx_pubrow (l := out) rfl rfl hF (fun I9 j9 R9 => ?_)
   exact q_i ⟨_, rfl, by rw [with_f hw h54]; exact R9⟩

theorem ref10Note (I : IMap) (v : Value) (l : List Prp) (hv : RdS I v l) (hl : l.length ≤ 1000000) (s t : ByteArray) :
    FnI Tryz.prog 150 #[v, .string s, .string t] I (fun u J => RdS J u (withF Prp.key ⟨s, t⟩ l)) := by
 obtain ⟨A, c0, rfl, hA, hc, hm⟩ := hv
 refine enter Tryz.func150 Tryz.call150 rfl Tryz.ntmps150 rfl (fun w0 => ?_)
 refine go 7 ?_
 refine sx_nilrow 184 2 ?_
 refine go 15 ?_
 refine c_loop5 ((0 : Nat)) (_) ([]) (_) ([]) (fun i v xs b out => I)
  (fun i v xs b out => [(0, .slice A l.length c0), (1, .string s), (2, .string t), (7, v), (8, .bool b), (9, .int .i64 ((i : Nat) : Int))])
  (fun i v xs b out => [.row v 184 2 out.length xs])
  (fun i v xs b out => i ≤ l.length ∧ wF Prp.key ⟨s, t⟩ (l.take i) = (out, b) ∧ Flat I xs out)
  (fun i v xs b out => l.length - i) ⟨Nat.zero_le _, rfl, .nil⟩ rfl sb rfl ?_
 intro i v xs b out ⟨hi, hw, hF⟩
 have hol := w_le hw
 refine go 9 ?_
 refine cb rfl (fun h13 p13 => ?_) (fun h13 p13 => ?_)
 ·have hlt : i < l.length := by omega
  refine go 10 ?_
  refine sxb 18 rfl (fun h18 p18 => ?_) (fun h18 p18 => ?_)
  ·refine go 2 ?_
   obtain ⟨b21, o21, w21, e21, c21, r21⟩ := RdA.at_ hA (i := i) hlt
   obtain rfl := r21
   refine o_cons (o_yes rfl rfl h18 (o_val rfl (v_idx he rfl rfl e21 (i) (by omega) hlt) ?_))
   refine go 1 ?_
   refine o_cons (o_yes rfl rfl h18 (o_val rfl (v_ldI he rfl (c21 0 _ rfl)) ?_))
   refine go 5 ?_
   refine cb rfl (fun h26 p26 => ?_) (fun h26 p26 => ?_)
   ·refine go 6 ?_
    refine o_val rfl (v_build (pl := [(0, 1), (1, 1)]) he he rfl rfl) ?_
    refine go 1 ?_
    refine o_buildSlice he he rfl rfl rfl rfl rfl rfl rfl (fun v31 => ?_)
    refine go 1 ?_
    refine bring1 ?_
    refine o_appendO he he rfl rfl rfl rfl rfl (by omega) (by omega) rfl (fun v32 => ?_)
    refine go 11 ?_
    obtain ⟨b35, o35, w35, e35, c35, r35⟩ := RdA.at_ hA (i := i) hlt
    obtain rfl := r35
    refine o_v rfl (v_idx he rfl rfl e35 (i) (by omega) hlt) ?_
    refine go 1 ?_
    refine o_v rfl (v_ldI he rfl (c35 0 _ rfl)) ?_
    refine go 4 ?_
    refine cb rfl (fun h39 p39 => ?_) (fun h39 p39 => ?_)
    ·refine go 4 ?_
     obtain ⟨b43, o43, w43, e43, c43, r43⟩ := RdA.at_ hA (i := i) hlt
     obtain rfl := r43
     refine o_v rfl (v_idx he rfl rfl e43 (i) (by omega) hlt) ?_
     refine o_v rfl (v_ldIa he rfl c43 rfl) ?_
     refine go 1 ?_
     refine o_buildSlice he he rfl rfl rfl rfl rfl rfl rfl (fun v45 => ?_)
     refine go 1 ?_
     refine bring1 ?_
     refine o_appendO he he rfl rfl rfl rfl rfl (by omega) (by omega) rfl (fun v46 => ?_)
     refine go 10 ?_
     refine bring1 ?_
     refine sx_drop ?_
     refine bring1 ?_
     refine sx_drop ?_
     exact q_next5 (i + 1) (_) (_) (_) (out ++ [⟨s, t⟩] ++ [l[i]]) ⟨by omega, wF_tt hlt hw h18 h26 h39, (hF.append (.one rfl)).append (.one rfl)⟩ (by omega) rfl sb (by first | rfl | (simp only [List.length_append, List.length_singleton]; rfl) | simp only [List.length_append, List.length_singleton])
    ·refine go 9 ?_
     refine bring1 ?_
     refine sx_drop ?_
     exact q_next5 (i + 1) (_) (_) (_) (out ++ [⟨s, t⟩]) ⟨by omega, wF_tf hlt hw h18 h26 h39, hF.append (.one rfl)⟩ (by omega) rfl sb (by first | rfl | (simp only [List.length_append, List.length_singleton]; rfl) | simp only [List.length_append, List.length_singleton])
   ·refine go 6 ?_
    obtain ⟨b35, o35, w35, e35, c35, r35⟩ := RdA.at_ hA (i := i) hlt
    obtain rfl := r35
    refine o_v rfl (v_idx he rfl rfl e35 (i) (by omega) hlt) ?_
    refine go 1 ?_
    refine o_v rfl (v_ldI he rfl (c35 0 _ rfl)) ?_
    refine go 4 ?_
    refine cb rfl (fun h39 p39 => ?_) (fun h39 p39 => ?_)
    ·refine go 4 ?_
     obtain ⟨b43, o43, w43, e43, c43, r43⟩ := RdA.at_ hA (i := i) hlt
     obtain rfl := r43
     refine o_v rfl (v_idx he rfl rfl e43 (i) (by omega) hlt) ?_
     refine o_v rfl (v_ldIa he rfl c43 rfl) ?_
     refine go 1 ?_
     refine o_buildSlice he he rfl rfl rfl rfl rfl rfl rfl (fun v45 => ?_)
     refine go 1 ?_
     refine bring1 ?_
     refine o_appendO he he rfl rfl rfl rfl rfl (by omega) (by omega) rfl (fun v46 => ?_)
     refine go 10 ?_
     refine bring1 ?_
     refine sx_drop ?_
     exact q_next5 (i + 1) (_) (_) (_) (out ++ [l[i]]) ⟨by omega, wF_ft hlt hw (by rw [h18, h26]; rfl) h39, hF.append (.one rfl)⟩ (by omega) rfl sb (by first | rfl | (simp only [List.length_append, List.length_singleton]; rfl) | simp only [List.length_append, List.length_singleton])
    ·refine go 9 ?_
     exact q_next5 (i + 1) (_) (_) (_) (out) ⟨by omega, wF_ff hlt hw (by rw [h18, h26]; rfl) h39, hF⟩ (by omega) rfl sb (by first | rfl | (simp only [List.length_append, List.length_singleton]; rfl) | simp only [List.length_append, List.length_singleton])
  ·refine go 10 ?_
   refine c_false rfl ?_
   refine go 6 ?_
   obtain ⟨b35, o35, w35, e35, c35, r35⟩ := RdA.at_ hA (i := i) hlt
   obtain rfl := r35
   refine o_v rfl (v_idx he rfl rfl e35 (i) (by omega) hlt) ?_
   refine go 1 ?_
   refine o_v rfl (v_ldI he rfl (c35 0 _ rfl)) ?_
   refine go 4 ?_
   refine cb rfl (fun h39 p39 => ?_) (fun h39 p39 => ?_)
   ·refine go 4 ?_
    obtain ⟨b43, o43, w43, e43, c43, r43⟩ := RdA.at_ hA (i := i) hlt
    obtain rfl := r43
    refine o_v rfl (v_idx he rfl rfl e43 (i) (by omega) hlt) ?_
    refine o_v rfl (v_ldIa he rfl c43 rfl) ?_
    refine go 1 ?_
    refine o_buildSlice he he rfl rfl rfl rfl rfl rfl rfl (fun v45 => ?_)
    refine go 1 ?_
    refine bring1 ?_
    refine o_appendO he he rfl rfl rfl rfl rfl (by omega) (by omega) rfl (fun v46 => ?_)
    refine go 10 ?_
    refine bring1 ?_
    refine sx_drop ?_
    exact q_next5 (i + 1) (_) (_) (_) (out ++ [l[i]]) ⟨by omega, wF_ft hlt hw (by rw [h18]; rfl) h39, hF.append (.one rfl)⟩ (by omega) rfl sb (by first | rfl | (simp only [List.length_append, List.length_singleton]; rfl) | simp only [List.length_append, List.length_singleton])
   ·refine go 9 ?_
    exact q_next5 (i + 1) (_) (_) (_) (out) ⟨by omega, wF_ff hlt hw (by rw [h18]; rfl) h39, hF⟩ (by omega) rfl sb (by first | rfl | (simp only [List.length_append, List.length_singleton]; rfl) | simp only [List.length_append, List.length_singleton])
 ·have e : i = l.length := (by omega)
  subst e
  rw [List.take_length] at hw
  refine go 12 ?_
  refine cb rfl (fun h48 p48 => ?_) (fun h48 p48 => ?_)
  ·refine go 5 ?_
   refine o_val rfl (v_build (pl := [(0, 1), (1, 1)]) he he rfl rfl) ?_
   refine go 1 ?_
   refine o_buildSlice he he rfl rfl rfl rfl rfl rfl rfl (fun v53 => ?_)
   refine go 1 ?_
   refine bring1 ?_
   refine o_appendO he he rfl rfl rfl rfl rfl (by omega) (by omega) rfl (fun v54 => ?_)
   refine go 10 ?_
   refine fin1 rfl rfl ?_
   refine bring1 ?_
   refine sx_drop ?_
   refine sx_pubrow (l := out ++ [(⟨s, t⟩ : Prp)]) rfl (by simp) (hF.append (.one rfl)) (fun I9 j9 R9 => ?_)
   exact q_i (by rw [with_t hw h48]; exact R9)
  ·refine go 9 ?_
   refine fin1 rfl rfl ?_
   refine sx_pubrow (l := out) rfl rfl hF (fun I9 j9 R9 => ?_)
   exact q_i (by rw [with_f hw h48]; exact R9)

theorem ref10held (I : IMap) (v : Value) (l : List Part) (hv : RdS I v l) (s t : ByteArray) :
    FnV Tryz.prog 149 #[.agg #[v], .string s, .string t] I (.bool (heldF l s t)) := by
 obtain ⟨A, c0, rfl, hA, hc, hm⟩ := hv
 refine enter Tryz.func149 Tryz.call149 rfl Tryz.ntmps149 rfl (fun w0 => ?_)
 refine go 3 ?_
 refine o_box _ rfl rfl rfl (fun g3 => ?_)
 refine go 10 ?_
 refine c_loop (α := Nat) 0 (fun i => I)
  (fun i => [(1, .string s), (2, .string t), (3, .pointer (some ⟨g3, 0, none⟩)), (7, .int .i64 ((i : Nat) : Int))])
  (fun i => [.blk g3 81 [.slice A l.length c0]])
  (fun i => i ≤ l.length ∧ ∀ j x, j < i → l[j]? = some x → (fun x : Part => decide (x.into = s) && (decide (t = nil8) || decide (x.slot = t))) x = false)
  (fun i => l.length - i) ⟨Nat.zero_le _, fun j x hj => absurd hj (Nat.not_lt_zero j)⟩ rfl sb rfl ?_
 intro i ⟨hi, hn⟩
 refine go 10 ?_
 refine cb rfl (fun h12 p12 => ?_) (fun h12 p12 => ?_)
 ·have hlt : i < l.length := by omega
  refine go 5 ?_
  refine c_cut (I' := I) (L' := [(1, .string s), (2, .string t), (3, .pointer (some ⟨g3, 0, none⟩)), (7, .int .i64 ((i : Nat) : Int)), (36, .bool (decide (l[i].into = s) && (decide (t = nil8) || decide (l[i].slot = t))))]) (H' := [.blk g3 81 [.slice A l.length c0]]) ?_ ?_
  ·refine go 4 ?_
   obtain ⟨b18, o18, w18, e18, c18, r18⟩ := RdA.at_ hA (i := i) hlt
   obtain ⟨q18, rfl, B18, d18, rfl, hB18, hd18, hm18⟩ := r18
   refine o_v rfl (v_idx he rfl rfl e18 (i) (by omega) hlt) ?_
   refine go 1 ?_
   refine o_v rfl (v_ldI he rfl (c18 2 _ rfl)) ?_
   refine go 3 ?_
   refine sxb 23 rfl (fun h23 p23 => ?_) (fun h23 p23 => ?_)
   ·refine go 3 ?_
    refine sxb 26 rfl (fun h26 p26 => ?_) (fun h26 p26 => ?_)
    ·refine go 12 ?_
     exact q_cut ⟨rfl, rfl, rfl, rfl, (congrArg (fun b => some (Value.bool b)) (by simp only [h12, h23, h26, bS])), trivial⟩ rfl rfl
    ·refine go 3 ?_
     obtain ⟨b30, o30, w30, e30, c30, r30⟩ := RdA.at_ hA (i := i) hlt
     obtain ⟨q30, rfl, B30, d30, rfl, hB30, hd30, hm30⟩ := r30
     refine o_cons (o_yes rfl rfl h26 (o_val rfl (v_idx he rfl rfl e30 (i) (by omega) hlt) ?_))
     refine go 1 ?_
     refine o_cons (o_yes rfl rfl h26 (o_val rfl (v_ldI he rfl (c30 3 _ rfl)) ?_))
     refine go 6 ?_
     exact q_cut ⟨rfl, rfl, rfl, rfl, (congrArg (fun b => some (Value.bool b)) (by simp only [h12, h23, h26, bS])), trivial⟩ rfl rfl
   ·refine go 15 ?_
    exact q_cut ⟨rfl, rfl, rfl, rfl, (congrArg (fun b => some (Value.bool b)) (by simp only [h12, h23, bS])), trivial⟩ rfl rfl
  ·refine cb rfl (fun h36 p36 => ?_) (fun h36 p36 => ?_)
   ·refine go 11 ?_
    refine fin1 rfl rfl ?_
    exact q_v (congrArg Value.bool (List.any_eq_true.2 ⟨l[i], List.getElem_mem hlt, h36⟩).symm)
   ·refine go 9 ?_
    exact q_next (i + 1) ⟨by omega, idx_next (p := (fun x : Part => decide (x.into = s) && (decide (t = nil8) || decide (x.slot = t)))) hn hlt h36⟩ (by omega) rfl sb rfl
 ·refine go 11 ?_
  refine fin1 rfl rfl ?_
  exact q_v (congrArg Value.bool (any_none (fun j x hj => hn j x (by omega))).symm)

theorem ref10heldS (I : IMap) (v : Value) (l : List Part) (hv : RdS I v l) (e : Evt) (h : e.slot ≠ nil8) : FnV Tryz.prog 149 #[.agg #[v], .string e.into, .string e.slot] I (.bool (seatTaken l e)) := by
  have := ref10held I v l hv e.into e.slot
  rwa [held_seat l e h] at this
theorem ref10heldA (I : IMap) (v : Value) (l : List Part) (hv : RdS I v l) (s : ByteArray) : FnV Tryz.prog 149 #[.agg #[v], .string s, .string ⟨#[]⟩] I (.bool (holdsAny l s)) := by
  have := ref10held I v l hv s nil8
  rwa [held_any l s] at this

theorem ref10Step (I : IMap) (vc : Value) (c : List Kind) (hvc : RdS I vc c) (hsc : SmC c) (v : Value) (l : List Part) (hv : RdS I v l) (hsf : SmF l) (e : Evt) (hse : SmE e) (hV : validS c l = true) (hE : validE e = true) :
    FnI Tryz.prog 124 #[.agg #[vc], .agg #[v], .agg e.cells.toArray] I (fun u J => StIs J (applyF c l e) u) := by
 have hA0 : (!validS c l || !validE e) = false := by rw [hV, hE]; rfl
 obtain ⟨hsrt, hlen⟩ := validS_ord hV
 have hl6 : l.length ≤ 1000000 := by omega
 have hv0 := hv
 obtain ⟨A, c0, rfl, hA, hc, hm⟩ := hv
 refine enter Tryz.func124 Tryz.call124 rfl Tryz.ntmps124 rfl (fun w0 => ?_)
 refine go 3 ?_
 refine o_box _ rfl rfl rfl (fun g3 => ?_)
 refine go 1 ?_
 refine o_box _ rfl rfl rfl (fun g4 => ?_)
 refine go 1 ?_
 refine o_box _ rfl rfl rfl (fun g5 => ?_)
 refine go 1 ?_
 refine o_alloc he rfl (fun g6 => ?_)
 refine go 9 ?_
 refine o_callV (ref10At _ _ l hv0 e.part) rfl rfl ?_
 refine go 11 ?_
 refine cb rfl (fun h22 p22 => ?_) (fun h22 p22 => ?_)
 ·refine go 6 ?_
  refine o_callE (refFind _ vc c hvc e.kind) rfl rfl (fun v27 q27 => ?_)
  obtain ⟨vs13, rfl, s13, rfl, hs13⟩ := q27
  refine go 4 ?_
  refine o_alloc he rfl (fun g9 => ?_)
  refine go 1 ?_
  refine o_stw _ he rfl rfl rfl rfl rfl (Enc.one (α := Kind) (I := I) (x := (findK c e.kind).getD zKind) ⟨s13, rfl, hs13⟩) ?_
  refine go 10 ?_
  refine cb rfl (fun h31 p31 => ?_) (fun h31 p31 => ?_)
  ·have hS1 : (findP l e.part).isSome = true := (by rw [← find_idx]; exact h31)
   refine go 3 ?_
   refine o_val rfl (v_build (pl := [(0, 1)]) he he rfl rfl) ?_
   refine go 1 ?_
   refine bring1 ?_
   refine o_stw _ he rfl rfl rfl rfl rfl rfl ?_
   refine go 6 ?_
   refine fin2 rfl ⟨_, _, _, rfl, m0, .inr ⟨_, he, rfl, rfl⟩⟩ rfl ?_
   exact q_i (StIs.fail (by simp only [applyF, hA0, p22, applyMake, hS1, Bool.true_eq_false, decide_true, decide_false, Int.reduceEq, reduceIte, if_true, if_false, Bool.false_eq_true, not_true, not_false_eq_true, bS]))
  ·have hS1 : (findP l e.part).isSome = false := (by rw [← find_idx]; exact h31)
   refine go 9 ?_
   refine cb rfl (fun h34 p34 => ?_) (fun h34 p34 => ?_)
   ·refine go 3 ?_
    refine o_val rfl (v_build (pl := [(0, 1)]) he he rfl rfl) ?_
    refine go 1 ?_
    refine bring1 ?_
    refine o_stw _ he rfl rfl rfl rfl rfl rfl ?_
    refine go 6 ?_
    refine fin2 rfl ⟨_, _, _, rfl, m0, .inr ⟨_, he, rfl, rfl⟩⟩ rfl ?_
    exact q_i (StIs.fail (by simp only [applyF, hA0, p22, applyMake, hS1, p34, Bool.true_eq_false, decide_true, decide_false, Int.reduceEq, reduceIte, if_true, if_false, Bool.false_eq_true, not_true, not_false_eq_true, bS]))
   ·refine go 11 ?_
    refine cb rfl (fun h39 p39 => ?_) (fun h39 p39 => ?_)
    ·have hL : ((l.length : Nat) : Int) = 20000 := by omega
     refine go 3 ?_
     refine o_val rfl (v_build (pl := [(0, 1)]) he he rfl rfl) ?_
     refine go 1 ?_
     refine bring1 ?_
     refine o_stw _ he rfl rfl rfl rfl rfl rfl ?_
     refine go 6 ?_
     refine fin2 rfl ⟨_, _, _, rfl, m0, .inr ⟨_, he, rfl, rfl⟩⟩ rfl ?_
     exact q_i (StIs.fail (by simp only [applyF, hA0, p22, applyMake, hS1, p34, hL, Bool.true_eq_false, decide_true, decide_false, Int.reduceEq, reduceIte, if_true, if_false, Bool.false_eq_true, not_true, not_false_eq_true, bS]))
    ·have hL : ¬ ((l.length : Nat) : Int) = 20000 := by omega
     refine go 14 ?_
     refine o_val rfl (v_build (pl := [(0, 1), (1, 1), (2, 1), (3, 1), (4, 1), (5, 1), (6, 1), (7, 1), (8, 6)]) he he rfl rfl) ?_
     refine go 1 ?_
     refine o_call (ref10with _ _ l hv0 hl6 (newP e) none 0 ⟨_, rfl, RdS.nil'⟩) rfl rfl (fun v51 I51 j51 q51 => ?_)
     obtain ⟨w51, rfl, hw51⟩ := q51
     refine go 1 ?_
     refine bring1 ?_
     refine o_stw _ he rfl rfl rfl rfl rfl (by simp [hw51.one]) ?_
     refine go 5 ?_
     refine fin2 rfl ⟨_, _, _, rfl, m0, .inr ⟨_, he, rfl, rfl⟩⟩ rfl ?_
     rw [with_put (inc_of hsrt)] at hw51
     exact q_i (StIs.put (by simp only [applyF, hA0, p22, applyMake, hS1, p34, hL, Bool.true_eq_false, decide_true, decide_false, Int.reduceEq, reduceIte, if_true, if_false, Bool.false_eq_true, not_true, not_false_eq_true, bS]) hw51)
 ·refine go 9 ?_
  refine c_cut (I' := I) (L' := [(3, .pointer (some ⟨g3, 0, none⟩)), (4, .pointer (some ⟨g4, 0, none⟩)), (5, .pointer (some ⟨g5, 0, none⟩)), (6, .pointer (some ⟨g6, 0, none⟩)), (8, .int .i64 (idxF (fun p : Part => decide (p.name = e.part)) l)), (11, .int .i64 (idxF (fun p : Part => decide (p.name = (otherN e))) l))]) (H' := [.blk g6 81 [.slice none 0 0], .blk g5 49 e.cells, .blk g4 81 [.slice A l.length c0], .blk g3 25 [vc]]) ?_ ?_
  ·refine go 7 ?_
   refine cb rfl (fun h55 p55 => ?_) (fun h55 p55 => ?_)
   ·refine go 5 ?_
    refine o_callV (ref10At _ _ l hv0 e.into) rfl rfl ?_
    refine go 3 ?_
    exact q_cut ⟨rfl, rfl, rfl, rfl, rfl, (congrArg (fun s => some (Value.int .i64 (idxF (fun p : Part => decide (p.name = s)) l))) (by first | exact (if_pos p55).symm | exact (if_neg p55).symm)), trivial⟩ rfl rfl
   ·refine go 2 ?_
    exact q_cut ⟨rfl, rfl, rfl, rfl, rfl, (congrArg (fun s => some (Value.int .i64 (idxF (fun p : Part => decide (p.name = s)) l))) (by first | exact (if_pos p55).symm | exact (if_neg p55).symm)), trivial⟩ rfl rfl
  ·refine go 6 ?_
   refine sxb 62 rfl (fun h62 p62 => ?_) (fun h62 p62 => ?_)
   ·have hS1 : (findP l e.part).isSome = false := (by rw [← find_idx]; simpa using p62)
    refine go 5 ?_
    refine c_true rfl ?_
    refine go 3 ?_
    refine o_val rfl (v_build (pl := [(0, 1)]) he he rfl rfl) ?_
    refine go 1 ?_
    refine o_stw _ he rfl rfl rfl rfl rfl rfl ?_
    refine go 5 ?_
    refine fin2 rfl ⟨_, _, _, rfl, m0, .inr ⟨_, he, rfl, rfl⟩⟩ rfl ?_
    exact q_i (StIs.fail (by simp only [applyF, hA0, p22, applyRest, hS1, Bool.true_eq_false, decide_true, decide_false, Int.reduceEq, reduceIte, if_true, if_false, Bool.false_eq_true, not_true, not_false_eq_true, bS]))
   ·have hS1 : (findP l e.part).isSome = true := (by rw [← find_idx]; simpa using p62)
    refine go 5 ?_
    refine cb rfl (fun h65 p65 => ?_) (fun h65 p65 => ?_)
    ·have hO : (otherO l e).isSome = false := (by rw [otherO_eq, ← find_idx]; simpa using p65)
     refine go 3 ?_
     refine o_val rfl (v_build (pl := [(0, 1)]) he he rfl rfl) ?_
     refine go 1 ?_
     refine o_stw _ he rfl rfl rfl rfl rfl rfl ?_
     refine go 5 ?_
     refine fin2 rfl ⟨_, _, _, rfl, m0, .inr ⟨_, he, rfl, rfl⟩⟩ rfl ?_
     exact q_i (StIs.fail (by simp only [applyF, hA0, p22, applyRest, hS1, hO, Bool.true_eq_false, decide_true, decide_false, Int.reduceEq, reduceIte, if_true, if_false, Bool.false_eq_true, not_true, not_false_eq_true, bS]))
    ·have hO : (otherO l e).isSome = true := (by rw [otherO_eq, ← find_idx]; simpa using p65)
     refine go 7 ?_
     obtain ⟨i1, hi1, ei1, hF1⟩ := (idxF_find (fun p : Part => decide (p.name = e.part)) l).resolve_left (fun h => by omega)
     have hP : partP l e = l[i1] := by rw [partP, show findP l e.part = _ from hF1]; rfl
     have hmem : partP l e ∈ l := by rw [hP]; exact List.getElem_mem hi1
     obtain ⟨b70, o70, w70, e70, c70, r70⟩ := RdA.at_ hA (i := i1) hi1
     rw [← hP] at r70
     obtain ⟨s12, rfl, hs12⟩ := r70
     refine o_v rfl (v_idx he rfl rfl e70 (i1) ei1 hi1) ?_
     refine o_v rfl (v_ldIa he rfl c70 rfl) ?_
     refine go 1 ?_
     refine o_alloc he rfl (fun g12 => ?_)
     refine go 1 ?_
     refine o_stw _ he rfl rfl rfl rfl rfl (Enc.one (α := Part) (I := I) (x := partP l e) ⟨s12, rfl, hs12⟩) ?_
     refine go 7 ?_
     obtain ⟨i2, hi2, ei2, hF2⟩ := (idxF_find (fun p : Part => decide (p.name = otherN e)) l).resolve_left (fun h => by omega)
     have hQ : otherP l e = l[i2] := by rw [otherP, otherO_eq, show findP l (otherN e) = _ from hF2]; rfl
     obtain ⟨b75, o75, w75, e75, c75, r75⟩ := RdA.at_ hA (i := i2) hi2
     rw [← hQ] at r75
     obtain ⟨s13, rfl, hs13⟩ := r75
     refine o_v rfl (v_idx he rfl rfl e75 (i2) ei2 hi2) ?_
     refine o_v rfl (v_ldIa he rfl c75 rfl) ?_
     refine go 1 ?_
     refine o_alloc he rfl (fun g13 => ?_)
     refine go 1 ?_
     refine o_stw _ he rfl rfl rfl rfl rfl (Enc.one (α := Part) (I := I) (x := otherP l e) ⟨s13, rfl, hs13⟩) ?_
     refine go 8 ?_
     refine sxb 79 rfl (fun h79 p79 => ?_) (fun h79 p79 => ?_)
     ·refine go 5 ?_
      refine c_true rfl ?_
      refine go 3 ?_
      refine o_val rfl (v_build (pl := [(0, 1)]) he he rfl rfl) ?_
      refine go 1 ?_
      refine bring2 ?_
      refine o_stw _ he rfl rfl rfl rfl rfl rfl ?_
      refine go 5 ?_
      refine fin2 rfl ⟨_, _, _, rfl, m0, .inr ⟨_, he, rfl, rfl⟩⟩ rfl ?_
      exact q_i (StIs.fail (by simp only [applyF, hA0, p22, applyRest, hS1, hO, h62, h65, h79, Bool.true_eq_false, decide_true, decide_false, Int.reduceEq, reduceIte, if_true, if_false, Bool.false_eq_true, not_true, not_false_eq_true, bS]))
     ·refine go 5 ?_
      refine cb rfl (fun h82 p82 => ?_) (fun h82 p82 => ?_)
      ·refine go 3 ?_
       refine o_val rfl (v_build (pl := [(0, 1)]) he he rfl rfl) ?_
       refine go 1 ?_
       refine bring2 ?_
       refine o_stw _ he rfl rfl rfl rfl rfl rfl ?_
       refine go 5 ?_
       refine fin2 rfl ⟨_, _, _, rfl, m0, .inr ⟨_, he, rfl, rfl⟩⟩ rfl ?_
       exact q_i (StIs.fail (by simp only [applyF, hA0, p22, applyRest, hS1, hO, h62, h65, h79, h82, Bool.true_eq_false, decide_true, decide_false, Int.reduceEq, reduceIte, if_true, if_false, Bool.false_eq_true, not_true, not_false_eq_true, bS]))
      ·refine go 8 ?_
       refine o_callE (refFind _ vc c hvc (partP l e).kind) rfl rfl (fun v88 q88 => ?_)
       obtain ⟨vs14, rfl, s14, rfl, hs14⟩ := q88
       refine go 4 ?_
       refine o_alloc he rfl (fun g14 => ?_)
       refine go 1 ?_
       refine o_stw _ he rfl rfl rfl rfl rfl (Enc.one (α := Kind) (I := I) (x := kindP c l e) ⟨s14, rfl, hs14⟩) ?_
       refine go 4 ?_
       refine c_cutx3 (Ix := (fun J p2 s2 => J)) (Lx := (fun J p2 s2 => [(4, .pointer (some ⟨g4, 0, none⟩)), (6, .pointer (some ⟨g6, 0, none⟩)), (12, .pointer (some ⟨g12, 0, none⟩))])) (Hx := (fun J p2 s2 => [.blk g12 89 (p2.cells s2), .blk g6 81 [.slice none 0 0], .blk g4 81 [.slice A l.length c0]])) (p := (fun J p2 s2 => ILe I J ∧ RdS J s2 p2.props ∧ applyF c l e = putR l p2)) ?_ ?_
       ·refine go 13 ?_
        refine cb rfl (fun h93 p93 => ?_) (fun h93 p93 => ?_)
        ·have hsl := fit_slot hE p93
         refine go 6 ?_
         refine sxb 97 rfl (fun h97 p97 => ?_) (fun h97 p97 => ?_)
         ·refine go 12 ?_
          refine c_true rfl ?_
          refine go 3 ?_
          refine o_val rfl (v_build (pl := [(0, 1)]) he he rfl rfl) ?_
          refine go 1 ?_
          refine bring3 ?_
          refine o_stw _ he rfl rfl rfl rfl rfl rfl ?_
          refine go 7 ?_
          refine fin2 rfl ⟨_, _, _, rfl, m0, .inr ⟨_, he, rfl, rfl⟩⟩ rfl ?_
          exact q_i (StIs.fail (by simp only [applyF, hA0, p22, applyRest, hS1, hO, h82, applyOp, applyFit, applyRemove, applyRun, applyNote, applyScrap, kindP, noted, p22, p62, p65, p79, p82, p93, p97, h62, h65, h79, h82, h93, h97, Bool.true_eq_false, decide_true, decide_false, Int.reduceEq, reduceIte, if_true, if_false, Bool.false_eq_true, not_true, not_false_eq_true, bS]))
         ·refine go 8 ?_
          refine o_yes rfl rfl h97 (o_callV (ref08Takes _ vc c hvc (otherP l e).kind e.slot (partP l e).kind) rfl rfl ?_)
          refine go 4 ?_
          refine cb rfl (fun h107 p107 => ?_) (fun h107 p107 => ?_)
          ·refine go 3 ?_
           refine o_val rfl (v_build (pl := [(0, 1)]) he he rfl rfl) ?_
           refine go 1 ?_
           refine bring3 ?_
           refine o_stw _ he rfl rfl rfl rfl rfl rfl ?_
           refine go 7 ?_
           refine fin2 rfl ⟨_, _, _, rfl, m0, .inr ⟨_, he, rfl, rfl⟩⟩ rfl ?_
           exact q_i (StIs.fail (by simp only [applyF, hA0, p22, applyRest, hS1, hO, h82, applyOp, applyFit, applyRemove, applyRun, applyNote, applyScrap, kindP, noted, p22, p62, p65, p79, p82, p93, p97, p107, h62, h65, h79, h82, h93, h97, h107, Bool.true_eq_false, decide_true, decide_false, Int.reduceEq, reduceIte, if_true, if_false, Bool.false_eq_true, not_true, not_false_eq_true, bS]))
          ·refine go 10 ?_
           refine cb rfl (fun h111 p111 => ?_) (fun h111 p111 => ?_)
           ·refine go 3 ?_
            refine o_val rfl (v_build (pl := [(0, 1)]) he he rfl rfl) ?_
            refine go 1 ?_
            refine bring3 ?_
            refine o_stw _ he rfl rfl rfl rfl rfl rfl ?_
            refine go 7 ?_
            refine fin2 rfl ⟨_, _, _, rfl, m0, .inr ⟨_, he, rfl, rfl⟩⟩ rfl ?_
            exact q_i (StIs.fail (by simp only [applyF, hA0, p22, applyRest, hS1, hO, h82, applyOp, applyFit, applyRemove, applyRun, applyNote, applyScrap, kindP, noted, p22, p62, p65, p79, p82, p93, p97, p107, p111, h62, h65, h79, h82, h93, h97, h107, h111, Bool.true_eq_false, decide_true, decide_false, Int.reduceEq, reduceIte, if_true, if_false, Bool.false_eq_true, not_true, not_false_eq_true, bS]))
           ·refine go 11 ?_
            refine o_callV (ref10heldS _ _ l hv0 e hsl) rfl rfl ?_
            refine go 2 ?_
            refine cb rfl (fun h118 p118 => ?_) (fun h118 p118 => ?_)
            ·refine go 3 ?_
             refine o_val rfl (v_build (pl := [(0, 1)]) he he rfl rfl) ?_
             refine go 1 ?_
             refine bring3 ?_
             refine o_stw _ he rfl rfl rfl rfl rfl rfl ?_
             refine go 7 ?_
             refine fin2 rfl ⟨_, _, _, rfl, m0, .inr ⟨_, he, rfl, rfl⟩⟩ rfl ?_
             exact q_i (StIs.fail (by simp only [applyF, hA0, p22, applyRest, hS1, hO, h82, applyOp, applyFit, applyRemove, applyRun, applyNote, applyScrap, kindP, noted, p22, p62, p65, p79, p82, p93, p97, p107, p111, p118, h62, h65, h79, h82, h93, h97, h107, h111, h118, Bool.true_eq_false, decide_true, decide_false, Int.reduceEq, reduceIte, if_true, if_false, Bool.false_eq_true, not_true, not_false_eq_true, bS]))
            ·refine go 8 ?_
             refine bring2 ?_
             refine o_st1 he rfl rfl rfl rfl ?_
             refine go 7 ?_
             refine o_st1 he rfl rfl rfl rfl ?_
             refine go 3 ?_
             refine bring1 ?_
             refine sx_drop ?_
             refine bring1 ?_
             refine sx_drop ?_
             refine bring2 ?_
             refine sx_drop ?_
             refine bring3 ?_
             refine sx_drop ?_
             exact q_cutx3 (_) ({ partP l e with into := e.into, slot := e.slot }) (_) ⟨ILe.refl _, hs12, by simp only [applyF, hA0, p22, applyRest, hS1, hO, h82, applyOp, applyFit, applyRemove, applyRun, applyNote, applyScrap, kindP, noted, overhauled, p22, p62, p65, p79, p82, p93, p97, p107, p111, p118, h62, h65, h79, h82, h93, h97, h107, h111, h118, Bool.true_eq_false, decide_true, decide_false, Int.reduceEq, reduceIte, if_true, if_false, Bool.false_eq_true, not_true, not_false_eq_true, bS]⟩ sb rfl rfl
        ·refine go 6 ?_
         refine cb rfl (fun h126 p126 => ?_) (fun h126 p126 => ?_)
         ·refine go 8 ?_
          refine cb rfl (fun h130 p130 => ?_) (fun h130 p130 => ?_)
          ·refine go 3 ?_
           refine o_val rfl (v_build (pl := [(0, 1)]) he he rfl rfl) ?_
           refine go 1 ?_
           refine bring3 ?_
           refine o_stw _ he rfl rfl rfl rfl rfl rfl ?_
           refine go 7 ?_
           refine fin2 rfl ⟨_, _, _, rfl, m0, .inr ⟨_, he, rfl, rfl⟩⟩ rfl ?_
           exact q_i (StIs.fail (by simp only [applyF, hA0, p22, applyRest, hS1, hO, h82, applyOp, applyFit, applyRemove, applyRun, applyNote, applyScrap, kindP, noted, p22, p62, p65, p79, p82, p93, p126, p130, h62, h65, h79, h82, h93, h126, h130, Bool.true_eq_false, decide_true, decide_false, Int.reduceEq, reduceIte, if_true, if_false, Bool.false_eq_true, not_true, not_false_eq_true, bS]))
          ·refine go 6 ?_
           refine bring2 ?_
           refine o_st1 he rfl rfl rfl rfl ?_
           refine go 5 ?_
           refine o_st1 he rfl rfl rfl rfl ?_
           refine go 3 ?_
           refine bring1 ?_
           refine sx_drop ?_
           refine bring1 ?_
           refine sx_drop ?_
           refine bring2 ?_
           refine sx_drop ?_
           refine bring3 ?_
           refine sx_drop ?_
           exact q_cutx3 (_) ({ partP l e with into := nil8, slot := nil8 }) (_) ⟨ILe.refl _, hs12, by simp only [applyF, hA0, p22, applyRest, hS1, hO, h82, applyOp, applyFit, applyRemove, applyRun, applyNote, applyScrap, kindP, noted, overhauled, p22, p62, p65, p79, p82, p93, p126, p130, h62, h65, h79, h82, h93, h126, h130, Bool.true_eq_false, decide_true, decide_false, Int.reduceEq, reduceIte, if_true, if_false, Bool.false_eq_true, not_true, not_false_eq_true, bS]⟩ sb rfl rfl
         ·refine go 6 ?_
          refine cb rfl (fun h134 p134 => ?_) (fun h134 p134 => ?_)
          ·refine go 7 ?_
           refine cb rfl (fun h138 p138 => ?_) (fun h138 p138 => ?_)
           ·refine go 3 ?_
            refine o_val rfl (v_build (pl := [(0, 1)]) he he rfl rfl) ?_
            refine go 1 ?_
            refine bring3 ?_
            refine o_stw _ he rfl rfl rfl rfl rfl rfl ?_
            refine go 6 ?_
            refine fin2 rfl ⟨_, _, _, rfl, m0, .inr ⟨_, he, rfl, rfl⟩⟩ rfl ?_
            exact q_i (StIs.fail (by simp only [applyF, hA0, p22, applyRest, hS1, hO, h82, applyOp, applyFit, applyRemove, applyRun, applyNote, applyScrap, kindP, noted, p22, p62, p65, p79, p82, p93, p126, p134, p138, h62, h65, h79, h82, h93, h126, h134, h138, Bool.true_eq_false, decide_true, decide_false, Int.reduceEq, reduceIte, if_true, if_false, Bool.false_eq_true, not_true, not_false_eq_true, bS]))
           ·refine go 3 ?_
            refine sx_drop ?_
            refine sx_drop ?_
            refine bring2 ?_
            refine sx_drop ?_
            refine bring3 ?_
            refine sx_drop ?_
            exact q_cutx3 (_) (partP l e) (_) ⟨ILe.refl _, hs12, by simp only [applyF, hA0, p22, applyRest, hS1, hO, h82, applyOp, applyFit, applyRemove, applyRun, applyNote, applyScrap, kindP, noted, overhauled, p22, p62, p65, p79, p82, p93, p126, p134, p138, h62, h65, h79, h82, h93, h126, h134, h138, Bool.true_eq_false, decide_true, decide_false, Int.reduceEq, reduceIte, if_true, if_false, Bool.false_eq_true, not_true, not_false_eq_true, bS]⟩ sb rfl rfl
          ·refine go 6 ?_
           refine cb rfl (fun h140 p140 => ?_) (fun h140 p140 => ?_)
           ·refine go 6 ?_
            refine o_v rfl (v_imax rfl rfl) ?_
            refine go 2 ?_
            refine bring2 ?_
            refine o_st1 he rfl rfl rfl rfl ?_
            refine go 4 ?_
            refine o_val rfl (v_build (pl := [(0, 2), (2, 2), (4, 2)]) he he rfl rfl) ?_
            refine go 2 ?_
            refine o_st _ _ he rfl rfl rfl rfl rfl rfl rfl ?_
            refine go 3 ?_
            refine bring1 ?_
            refine sx_drop ?_
            refine bring1 ?_
            refine sx_drop ?_
            refine bring2 ?_
            refine sx_drop ?_
            refine bring3 ?_
            refine sx_drop ?_
            exact q_cutx3 (_) (overhauled e (partP l e)) (_) ⟨ILe.refl _, hs12, by simp only [applyF, hA0, p22, applyRest, hS1, hO, h82, applyOp, applyFit, applyRemove, applyRun, applyNote, applyScrap, kindP, noted, overhauled, p22, p62, p65, p79, p82, p93, p126, p134, p140, h62, h65, h79, h82, h93, h126, h134, h140, Bool.true_eq_false, decide_true, decide_false, Int.reduceEq, reduceIte, if_true, if_false, Bool.false_eq_true, not_true, not_false_eq_true, bS]⟩ sb rfl rfl
           ·refine go 6 ?_
            refine cb rfl (fun h150 p150 => ?_) (fun h150 p150 => ?_)
            ·refine go 9 ?_
             refine o_call (ref10Note _ s12 (partP l e).props hs12 (by have := (validS_part hV hmem).2; omega) e.key e.value) rfl rfl (fun v158 I158 j158 q158 => ?_)
             have R158 : RdS I158 v158 (putL Prp.key (partP l e).props ⟨e.key, e.value⟩) := with_put (nm := Prp.key) (x := ⟨e.key, e.value⟩) (inc_of (validS_part hV hmem).1) ▸ q158
             obtain ⟨B158, d158, rfl, h158⟩ := R158
             refine go 2 ?_
             refine bring2 ?_
             refine o_st1 he rfl rfl rfl rfl ?_
             refine go 10 ?_
             refine cb rfl (fun h163 p163 => ?_) (fun h163 p163 => ?_)
             ·refine go 3 ?_
              refine o_val rfl (v_build (pl := [(0, 1)]) he he rfl rfl) ?_
              refine go 1 ?_
              refine bring3 ?_
              refine o_stw _ he rfl rfl rfl rfl rfl rfl ?_
              refine go 6 ?_
              refine fin2 rfl ⟨_, _, _, rfl, m0, .inr ⟨_, he, rfl, rfl⟩⟩ rfl ?_
              exact q_i (StIs.fail (by simp only [applyF, hA0, p22, applyRest, hS1, hO, h82, applyOp, applyFit, applyRemove, applyRun, applyNote, applyScrap, kindP, noted, p22, p62, p65, p79, p82, p93, p126, p134, p140, p150, p163, h62, h65, h79, h82, h93, h126, h134, h140, h150, h163, Bool.true_eq_false, decide_true, decide_false, Int.reduceEq, reduceIte, if_true, if_false, Bool.false_eq_true, not_true, not_false_eq_true, bS]))
             ·refine go 3 ?_
              refine bring1 ?_
              refine sx_drop ?_
              refine bring1 ?_
              refine sx_drop ?_
              refine bring2 ?_
              refine sx_drop ?_
              refine bring3 ?_
              refine sx_drop ?_
              exact q_cutx3 (_) (noted e (partP l e)) (_) ⟨j158, ⟨B158, d158, rfl, h158⟩, by simp only [applyF, hA0, p22, applyRest, hS1, hO, h82, applyOp, applyFit, applyRemove, applyRun, applyNote, applyScrap, kindP, noted, overhauled, p22, p62, p65, p79, p82, p93, p126, p134, p140, p150, p163, h62, h65, h79, h82, h93, h126, h134, h140, h150, h163, Bool.true_eq_false, decide_true, decide_false, Int.reduceEq, reduceIte, if_true, if_false, Bool.false_eq_true, not_true, not_false_eq_true, bS]⟩ sb rfl rfl
            ·refine go 6 ?_
             refine cb rfl (fun h165 p165 => ?_) (fun h165 p165 => ?_)
             ·refine go 7 ?_
              refine sxb 170 rfl (fun h170 p170 => ?_) (fun h170 p170 => ?_)
              ·refine go 7 ?_
               refine c_true rfl ?_
               refine go 3 ?_
               refine o_val rfl (v_build (pl := [(0, 1)]) he he rfl rfl) ?_
               refine go 1 ?_
               refine bring3 ?_
               refine o_stw _ he rfl rfl rfl rfl rfl rfl ?_
               refine go 7 ?_
               refine fin2 rfl ⟨_, _, _, rfl, m0, .inr ⟨_, he, rfl, rfl⟩⟩ rfl ?_
               exact q_i (StIs.fail (by simp only [applyF, hA0, p22, applyRest, hS1, hO, h82, applyOp, applyFit, applyRemove, applyRun, applyNote, applyScrap, kindP, noted, p22, p62, p65, p79, p82, p93, p126, p134, p140, p150, p165, p170, h62, h65, h79, h82, h93, h126, h134, h140, h150, h165, h170, Bool.true_eq_false, decide_true, decide_false, Int.reduceEq, reduceIte, if_true, if_false, Bool.false_eq_true, not_true, not_false_eq_true, bS]))
              ·refine go 4 ?_
               refine o_yes rfl rfl h170 (o_callV (ref10heldA _ _ l hv0 (partP l e).name) rfl rfl ?_)
               refine go 3 ?_
               refine cb rfl (fun h175 p175 => ?_) (fun h175 p175 => ?_)
               ·refine go 3 ?_
                refine o_val rfl (v_build (pl := [(0, 1)]) he he rfl rfl) ?_
                refine go 1 ?_
                refine bring3 ?_
                refine o_stw _ he rfl rfl rfl rfl rfl rfl ?_
                refine go 7 ?_
                refine fin2 rfl ⟨_, _, _, rfl, m0, .inr ⟨_, he, rfl, rfl⟩⟩ rfl ?_
                exact q_i (StIs.fail (by simp only [applyF, hA0, p22, applyRest, hS1, hO, h82, applyOp, applyFit, applyRemove, applyRun, applyNote, applyScrap, kindP, noted, p22, p62, p65, p79, p82, p93, p126, p134, p140, p150, p165, p170, p175, h62, h65, h79, h82, h93, h126, h134, h140, h150, h165, h170, h175, Bool.true_eq_false, decide_true, decide_false, Int.reduceEq, reduceIte, if_true, if_false, Bool.false_eq_true, not_true, not_false_eq_true, bS]))
               ·refine go 5 ?_
                refine bring2 ?_
                refine o_st1 he rfl rfl rfl rfl ?_
                refine go 3 ?_
                refine bring1 ?_
                refine sx_drop ?_
                refine bring1 ?_
                refine sx_drop ?_
                refine bring2 ?_
                refine sx_drop ?_
                refine bring3 ?_
                refine sx_drop ?_
                exact q_cutx3 (_) ({ partP l e with scrapped := true }) (_) ⟨ILe.refl _, hs12, by simp only [applyF, hA0, p22, applyRest, hS1, hO, h82, applyOp, applyFit, applyRemove, applyRun, applyNote, applyScrap, kindP, noted, overhauled, p22, p62, p65, p79, p82, p93, p126, p134, p140, p150, p165, p170, p175, h62, h65, h79, h82, h93, h126, h134, h140, h150, h165, h170, h175, Bool.true_eq_false, decide_true, decide_false, Int.reduceEq, reduceIte, if_true, if_false, Bool.false_eq_true, not_true, not_false_eq_true, bS]⟩ sb rfl rfl
             ·refine go 3 ?_
              refine sx_drop ?_
              refine sx_drop ?_
              refine bring2 ?_
              refine sx_drop ?_
              refine bring3 ?_
              refine sx_drop ?_
              exact q_cutx3 (_) (partP l e) (_) ⟨ILe.refl _, hs12, by simp only [applyF, hA0, p22, applyRest, hS1, hO, h82, applyOp, applyFit, applyRemove, applyRun, applyNote, applyScrap, kindP, noted, overhauled, p22, p62, p65, p79, p82, p93, p126, p134, p140, p150, p165, h62, h65, h79, h82, h93, h126, h134, h140, h150, h165, Bool.true_eq_false, decide_true, decide_false, Int.reduceEq, reduceIte, if_true, if_false, Bool.false_eq_true, not_true, not_false_eq_true, bS]⟩ sb rfl rfl
       ·rintro J p2 s2 ⟨hJ, ⟨B2, d2, rfl, hB2⟩, hA2⟩
        refine go 5 ?_
        refine o_call (ref10with _ _ l (hv0.le hJ) hl6 p2 B2 d2 ⟨_, rfl, B2, d2, rfl, hB2⟩) rfl rfl (fun v180 I180 j180 q180 => ?_)
        obtain ⟨w180, rfl, hw180⟩ := q180
        refine go 1 ?_
        refine bring1 ?_
        refine o_stw _ he rfl rfl rfl rfl rfl (by simp [hw180.one]) ?_
        refine go 4 ?_
        refine fin2 rfl ⟨_, _, _, rfl, m0, .inr ⟨_, he, rfl, rfl⟩⟩ rfl ?_
        rw [with_put (inc_of hsrt)] at hw180
        exact q_i (StIs.put hA2 hw180)

theorem ref10Apply (I : IMap) (vc : Value) (c : List Kind) (hvc : RdS I vc c) (hsc : SmC c) (v : Value) (l : List Part) (hv : RdS I v l) (hsf : SmF l) (e : Evt) (hse : SmE e) :
    FnI Tryz.prog 103 #[.agg #[vc], .agg #[v], .agg e.cells.toArray] I (fun u J => StIs J (applyF c l e) u) := by
 refine enter Tryz.func103 Tryz.call103 rfl Tryz.ntmps103 rfl (fun w0 => ?_)
 refine go 3 ?_
 refine o_box _ rfl rfl rfl (fun g3 => ?_)
 refine go 1 ?_
 refine o_box _ rfl rfl rfl (fun g4 => ?_)
 refine go 1 ?_
 refine o_box _ rfl rfl rfl (fun g5 => ?_)
 refine go 1 ?_
 refine o_alloc he rfl (fun g6 => ?_)
 refine go 5 ?_
 refine c_cut (I' := I) (L' := [(3, .pointer (some ⟨g3, 0, none⟩)), (4, .pointer (some ⟨g4, 0, none⟩)), (5, .pointer (some ⟨g5, 0, none⟩)), (6, .pointer (some ⟨g6, 0, none⟩)), (16, .bool (!validS c l || !validE e))]) (H' := [.blk g6 81 [.slice none 0 0], .blk g5 49 e.cells, .blk g4 81 [v], .blk g3 25 [vc]]) ?_ ?_
 ·refine go 4 ?_
  refine o_callV (ref10Valid _ vc c hvc hsc _ l hv hsf) rfl rfl ?_
  refine go 2 ?_
  refine sxb 12 rfl (fun h12 p12 => ?_) (fun h12 p12 => ?_)
  ·refine go 6 ?_
   exact q_cut ⟨rfl, rfl, rfl, rfl, (congrArg (fun b => some (Value.bool b)) (by simp only [h12, bS])), trivial⟩ rfl rfl
  ·refine go 2 ?_
   refine o_yes rfl rfl h12 (o_callV (ref09Valid _ e hse) rfl rfl ?_)
   refine go 4 ?_
   exact q_cut ⟨rfl, rfl, rfl, rfl, (congrArg (fun b => some (Value.bool b)) (by simp only [h12, bS])), trivial⟩ rfl rfl
 ·refine cb rfl (fun h16 p16 => ?_) (fun h16 p16 => ?_)
  ·refine go 3 ?_
   refine o_val rfl (v_build (pl := [(0, 1)]) he he rfl rfl) ?_
   refine go 1 ?_
   refine o_stw _ he rfl rfl rfl rfl rfl rfl ?_
   refine go 5 ?_
   refine fin2 rfl ⟨_, _, _, rfl, m0, .inr ⟨_, he, rfl, rfl⟩⟩ rfl ?_
   exact q_i (StIs.fail (by simp only [applyF, h16, if_true]))
  ·have hVE : validS c l = true ∧ validE e = true := by revert h16; simp
   refine go 8 ?_
   refine o_call (ref10Step _ vc c hvc hsc _ l hv hsf e hse hVE.1 hVE.2) rfl rfl (fun v21 I21 j21 q21 => ?_)
   obtain ⟨w21, rfl, hw21⟩ := q21
   refine go 3 ?_
   refine o_stw _ he rfl rfl rfl rfl rfl (by simp [hw21.one]) ?_
   refine go 4 ?_
   refine fin2 rfl ⟨_, _, _, rfl, m0, .inr ⟨_, he, rfl, rfl⟩⟩ rfl ?_
   exact q_i ⟨w21, rfl, hw21⟩

theorem ref11Up (I : IMap) (v : Value) (l : List Evt) (hv : RdS I v l) (hl : l.length ≤ 1000000) (day : Int) :
    FnI Tryz.prog 70 #[v, .int .i64 day] I (fun u J => RdS J u (l.filter fun e => !decide (e.day > day))) := by
 obtain ⟨A, c0, rfl, hA, hc, hm⟩ := hv
 refine enter Tryz.func70 Tryz.call70 rfl Tryz.ntmps70 rfl (fun w0 => ?_)
 refine go 7 ?_
 refine sx_nilrow 49 14 ?_
 refine go 10 ?_
 refine c_loop4 ((0 : Nat)) (_) ([]) ([]) (fun i v xs out => I)
  (fun i v xs out => [(0, .slice A l.length c0), (1, .int .i64 day), (5, v), (6, .int .i64 ((i : Nat) : Int))])
  (fun i v xs out => [.row v 49 14 out.length xs])
  (fun i v xs out => i ≤ l.length ∧ (l.take i).filter (fun e : Evt => !decide (e.day > day)) = out ∧ Flat I xs out)
  (fun i v xs out => l.length - i) ⟨Nat.zero_le _, rfl, .nil⟩ rfl sb rfl ?_
 intro i v xs out ⟨hi, hw, hF⟩
 have hol : out.length ≤ i := by rw [← hw]; exact Nat.le_trans (List.length_filter_le _ _) (by rw [List.length_take]; omega)
 refine go 9 ?_
 refine cb rfl (fun h10 p10 => ?_) (fun h10 p10 => ?_)
 ·have hlt : i < l.length := by omega
  refine go 8 ?_
  obtain ⟨b15, o15, w15, e15, c15, r15⟩ := RdA.at_ hA (i := i) hlt
  obtain rfl := r15
  refine o_v rfl (v_idx he rfl rfl e15 (i) (by omega) hlt) ?_
  refine go 1 ?_
  refine o_v rfl (v_ldI he rfl (c15 1 _ rfl)) ?_
  refine go 4 ?_
  refine cb rfl (fun h19 p19 => ?_) (fun h19 p19 => ?_)
  ·refine go 4 ?_
   obtain ⟨b23, o23, w23, e23, c23, r23⟩ := RdA.at_ hA (i := i) hlt
   obtain rfl := r23
   refine o_v rfl (v_idx he rfl rfl e23 (i) (by omega) hlt) ?_
   refine o_v rfl (v_ldIa he rfl c23 rfl) ?_
   refine go 1 ?_
   refine o_buildSlice he he rfl rfl rfl rfl rfl rfl rfl (fun v25 => ?_)
   refine go 1 ?_
   refine bring1 ?_
   refine o_appendO he he rfl rfl rfl rfl rfl (by omega) (by omega) rfl (fun v26 => ?_)
   refine go 10 ?_
   refine bring1 ?_
   refine sx_drop ?_
   exact q_next4 (i + 1) (_) (_) (out ++ [l[i]]) ⟨by omega, by rw [filter_yes (f := (fun e : Evt => !decide (e.day > day))) hlt (by simpa using p19), hw], hF.append (.one rfl)⟩ (by omega) rfl sb (by first | rfl | (simp only [List.length_append, List.length_singleton]; rfl) | simp only [List.length_append, List.length_singleton])
  ·refine go 9 ?_
   exact q_next4 (i + 1) (_) (_) (out) ⟨by omega, by rw [filter_no (f := (fun e : Evt => !decide (e.day > day))) hlt (by simpa using p19), hw], hF⟩ (by omega) rfl sb (by first | rfl | (simp only [List.length_append, List.length_singleton]; rfl) | simp only [List.length_append, List.length_singleton])
 ·refine go 12 ?_
  refine fin1 rfl rfl ?_
  have e : i = l.length := (by omega)
  subst e
  rw [List.take_length] at hw
  subst hw
  refine sx_pubrow (l := l.filter (fun e : Evt => !decide (e.day > day))) rfl rfl hF (fun I9 j9 R9 => ?_)
  exact q_i R9

theorem ref11Sort (I : IMap) (v : Value) (l : List Evt) (hv : RdS I v l) (hl : l.length ≤ 1000000) :
    FnI Tryz.prog 102 #[v] I (fun u J => RdS J u (sortF l)) := by
 obtain ⟨A, c0, rfl, hA, hc, hm⟩ := hv
 refine enter Tryz.func102 Tryz.call102 rfl Tryz.ntmps102 rfl (fun w0 => ?_)
 refine go 17 ?_
 refine c_loop3 ((0 : Nat)) (_) (I) (fun i v3 J => J)
  (fun i v3 J => [(0, .slice A l.length c0), (3, v3), (4, .int .i64 ((i : Nat) : Int))])
  (fun i v3 J => [])
  (fun i v3 J => i ≤ l.length ∧ ILe I J ∧ RdS J v3 (sortF (l.take i)))
  (fun i v3 J => l.length - i) ⟨Nat.zero_le _, ILe.refl _, RdS.nil'⟩ rfl sb rfl ?_
 intro i v3 J ⟨hi, hJ, hv3⟩
 have hA := hA.le hJ
 obtain ⟨A3, c3, rfl, hA3, hc3, hm3⟩ := id hv3
 have hsl : (sortF (l.take i)).length = i := by rw [sortF_len, List.length_take]; omega
 refine go 9 ?_
 refine cb rfl (fun h10 p10 => ?_) (fun h10 p10 => ?_)
 ·have hlt : i < l.length := by omega
  refine go 12 ?_
  refine c_cutx (α := Nat) (Ix := (fun k => J)) (Lx := (fun k => [(0, .slice A l.length c0), (3, .slice A3 (sortF (l.take i)).length c3), (4, .int .i64 ((i : Nat) : Int)), (5, .int .i64 ((k : Nat) : Int))])) (Hx := (fun k => [])) (p := (fun k => k ≤ i ∧ (∀ j y, k ≤ j → (sortF (l.take i))[j]? = some y → Day.day y > Day.day l[i]) ∧ (k = 0 ∨ ∃ y, (sortF (l.take i))[k - 1]? = some y ∧ Day.day y ≤ Day.day l[i]))) ?_ ?_
  ·refine go 1 ?_
   refine c_loop (α := Nat) i (fun k => J)
    (fun k => [(0, .slice A l.length c0), (3, .slice A3 (sortF (l.take i)).length c3), (4, .int .i64 ((i : Nat) : Int)), (5, .int .i64 ((k : Nat) : Int))])
    (fun k => [])
    (fun k => k ≤ i ∧ ∀ j y, k ≤ j → (sortF (l.take i))[j]? = some y → Day.day y > Day.day l[i])
    (fun k => k) ⟨Nat.le_refl _, fun j y h1 h2 => by have := (List.getElem?_eq_some_iff.1 h2).1; omega⟩ rfl ⟨rfl, rfl, rfl, congrArg (fun z : Nat => some (Value.int .i64 (z : Int))) hsl, trivial⟩ rfl ?_
   intro k ⟨hki, hk1⟩
   refine go 2 ?_
   refine d_startH T.mixed ?_
   refine d_tv 0 rfl rfl (by kernel_rfl) rfl .slnil rfl (v_move rfl) ?_
   refine d_tv 1 rfl rfl (by kernel_rfl) rfl .slnil rfl (v_gtr rfl rfl) ?_
   refine d_tv 2 rfl rfl (by kernel_rfl) rfl .slnil rfl (v_move rfl) ?_
   refine sxb 17 rfl (fun h17 p17 => ?_) (fun h17 p17 => ?_)
   ·refine d_t 3 rfl rfl (by kernel_rfl) rfl (fun _ m => m.keeps .slnil) (y_yes rfl rfl h17 (v_move rfl)) ?_
    refine d_t 4 rfl rfl (by kernel_rfl) rfl (fun _ m => m.keeps .slnil) (y_yes rfl rfl h17 (v_move rfl)) ?_
    refine d_t 5 rfl rfl (by kernel_rfl) rfl (fun _ m => m.keeps .slnil) (y_yes rfl rfl h17 (OV.cast (u := .int .i64 ((k - 1 : Nat) : Int)) (v_sub rfl rfl ⟨by omega, by omega⟩) (congrArg (Value.int .i64) (by omega)))) ?_
    obtain ⟨b21, o21, w21, e21, c21, r21⟩ := RdA.at_ hA3 (i := k - 1) (by omega)
    obtain rfl := r21
    refine d_t 6 rfl rfl (by kernel_rfl) rfl (fun _ m => m.keeps .slnil) (y_yes rfl rfl h17 (v_idx he rfl rfl e21 (k - 1) (by omega) (by omega))) ?_
    refine d_t 7 rfl rfl (by kernel_rfl) rfl (fun _ m => m.keeps .slnil) (y_yes rfl rfl h17 (v_fieldAddr he rfl)) ?_
    refine d_t 8 rfl rfl (by kernel_rfl) rfl (fun _ m => m.keeps .slnil) (y_yes rfl rfl h17 (v_ldI he rfl (c21 1 _ rfl))) ?_
    refine d_t 9 rfl rfl (by kernel_rfl) rfl (fun _ m => m.keeps .slnil) (y_yes rfl rfl h17 (v_move rfl)) ?_
    refine d_t 10 rfl rfl (by kernel_rfl) rfl (fun _ m => m.keeps .slnil) (y_yes rfl rfl h17 (v_move rfl)) ?_
    obtain ⟨b26, o26, w26, e26, c26, r26⟩ := RdA.at_ hA (i := i) hlt
    obtain rfl := r26
    refine d_t 11 rfl rfl (by kernel_rfl) rfl (fun _ m => m.keeps .slnil) (y_yes rfl rfl h17 (v_idx he rfl rfl e26 (i) (by omega) hlt)) ?_
    refine d_t 12 rfl rfl (by kernel_rfl) rfl (fun _ m => m.keeps .slnil) (y_yes rfl rfl h17 (v_fieldAddr he rfl)) ?_
    refine d_t 13 rfl rfl (by kernel_rfl) rfl (fun _ m => m.keeps .slnil) (y_yes rfl rfl h17 (v_ldI he rfl (c26 1 _ rfl))) ?_
    refine d_t 14 rfl rfl (by kernel_rfl) rfl (fun _ m => m.keeps .slnil) (y_yes rfl rfl h17 (v_gtr rfl rfl)) ?_
    refine d_tv 15 rfl rfl (by kernel_rfl) rfl .slnil rfl (v_and_t h17 rfl rfl) ?_
    refine d_done (by kernel_rfl) ?_
    refine go 1 ?_
    refine cb rfl (fun h30 p30 => ?_) (fun h30 p30 => ?_)
    ·refine go 10 ?_
     exact q_next (k - 1) ⟨by omega, fun j y h1 h2 => by
       rcases Nat.lt_or_ge j k with h | h
       · obtain rfl : j = k - 1 := by omega
         rw [List.getElem?_eq_getElem (by omega)] at h2
         cases h2
         exact p30
       · exact hk1 j y h h2⟩ (by omega) rfl ⟨rfl, rfl, rfl, congrArg (fun z : Int => some (Value.int .i64 z)) (by omega), trivial⟩ rfl
    ·refine go 5 ?_
     exact q_cutx k ⟨hki, hk1, .inr ⟨_, List.getElem?_eq_getElem (by omega), Int.not_lt.1 p30⟩⟩ sb rfl rfl
   ·refine d_t 3 rfl rfl (by kernel_rfl) rfl (fun _ m => m.keeps .slnil) (y_no rfl rfl h17) ?_
    refine d_t 4 rfl rfl (by kernel_rfl) rfl (fun _ m => m.keeps .slnil) (y_no rfl rfl h17) ?_
    refine d_t 5 rfl rfl (by kernel_rfl) rfl (fun _ m => m.keeps .slnil) (y_no rfl rfl h17) ?_
    refine d_t 6 rfl rfl (by kernel_rfl) rfl (fun _ m => m.keeps .slnil) (y_no rfl rfl h17) ?_
    refine d_t 7 rfl rfl (by kernel_rfl) rfl (fun _ m => m.keeps .slnil) (y_no rfl rfl h17) ?_
    refine d_t 8 rfl rfl (by kernel_rfl) rfl (fun _ m => m.keeps .slnil) (y_no rfl rfl h17) ?_
    refine d_t 9 rfl rfl (by kernel_rfl) rfl (fun _ m => m.keeps .slnil) (y_no rfl rfl h17) ?_
    refine d_t 10 rfl rfl (by kernel_rfl) rfl (fun _ m => m.keeps .slnil) (y_no rfl rfl h17) ?_
    refine d_t 11 rfl rfl (by kernel_rfl) rfl (fun _ m => m.keeps .slnil) (y_no rfl rfl h17) ?_
    refine d_t 12 rfl rfl (by kernel_rfl) rfl (fun _ m => m.keeps .slnil) (y_no rfl rfl h17) ?_
    refine d_t 13 rfl rfl (by kernel_rfl) rfl (fun _ m => m.keeps .slnil) (y_no rfl rfl h17) ?_
    refine d_t 14 rfl rfl (by kernel_rfl) rfl (fun _ m => m.keeps .slnil) (y_no rfl rfl h17) ?_
    refine d_tv 15 rfl rfl (by kernel_rfl) rfl .slnil rfl (v_and_f h17 rfl) ?_
    refine d_done (by kernel_rfl) ?_
    refine go 1 ?_
    refine c_false rfl ?_
    refine go 5 ?_
    exact q_cutx k ⟨hki, hk1, .inl (by omega)⟩ sb rfl rfl
  ·intro k ⟨hki, hk1, hk2⟩
   refine go 1 ?_
   refine sx_knowI (fun hE8 hf8 => ?_)
   refine d_startH T.mixed ?_
   refine d_tv 0 rfl rfl (by kernel_rfl) rfl .slnil rfl (v_move rfl) ?_
   refine d_tv 1 rfl rfl (by kernel_rfl) rfl .slnil rfl (v_move rfl) ?_
   obtain ⟨b35, o35, w35, e35, c35, r35⟩ := RdA.at_ hA (i := i) hlt
   obtain rfl := r35
   refine d_tv 2 rfl rfl (by kernel_rfl) rfl .slnil rfl (v_idx he rfl rfl e35 (i) (by omega) hlt) ?_
   refine d_tv 3 rfl rfl (by kernel_rfl) rfl .slnil rfl (v_ldIa he rfl c35 rfl) ?_
   refine d_tv 5 rfl rfl (by kernel_rfl) rfl .slnil rfl (v_move rfl) ?_
   refine d_tv 6 rfl rfl (by kernel_rfl) rfl .slnil rfl (v_move rfl) ?_
   refine d_tv 7 rfl rfl (by kernel_rfl) rfl .slnil rfl (v_slice_lo he rfl rfl k rfl (by omega)) ?_
   refine d_one 4 (by kernel_rfl) rfl ?_
   refine o_buildSlice he he rfl rfl rfl rfl rfl rfl rfl (fun v37 => ?_)
   refine d_on (fun _ m => m.keeps (.cons _ .slnil)) ?_
   refine d_one 8 (by kernel_rfl) rfl ?_
   refine o_appendR ((hv3.drop k (by omega))) rfl he he rfl rfl rfl rfl (by simp; omega) (by simp; omega) rfl (fun v41 x41 f41 => ?_)
   refine sx_pubrow (l := l[i] :: (sortF (l.take i)).drop k) rfl (by simp; omega) (.cons rfl f41) (fun I41 j41 R41 => ?_)
   have hA3 := hA3.le j41
   have hv3 := hv3.le j41
   refine d_on (fun _ m => m.keepsI .slnil (j41) hE8 hf8) ?_
   refine d_t 9 rfl rfl (by kernel_rfl) rfl (fun _ m => m.keepsI .slnil (j41) hE8 hf8) (y_v rfl (v_assign rfl)) ?_
   refine d_done (by kernel_rfl) ?_
   refine go 3 ?_
   refine o_buildSlice he he rfl rfl rfl rfl rfl rfl rfl (fun v42 => ?_)
   refine go 2 ?_
   refine o_v rfl (v_slice_hi he rfl rfl k rfl (by omega)) ?_
   refine go 1 ?_
   refine o_appendR ((hv3.take k (by omega))) rfl he he rfl rfl rfl rfl (by simp; omega) (by simp; omega) rfl (fun v46 x46 f46 => ?_)
   refine go 2 ?_
   refine o_appendR (R41) rfl he he rfl rfl rfl rfl (by simp; omega) (by simp; omega) rfl (fun v48 x48 f48 => ?_)
   refine sx_pubrow (l := (sortF (l.take i)).take k ++ l[i] :: (sortF (l.take i)).drop k) rfl (by simp <;> omega) (((Flat.nil.append f46).append f48)) (fun I48 j48 R48 => ?_)
   refine go 10 ?_
   exact q_next3 (i + 1) (_) (_) ⟨by omega, hJ.trans (j41.trans j48), by rw [← take_succ_of hlt, ← ins_right (k := k) (by omega) hk1 (by rcases hk2 with h | h; exact .inl h; exact .inr h)]; simpa using R48⟩ (by omega) rfl sb rfl
 ·refine go 12 ?_
  refine fin1 rfl rfl ?_
  have e : i = l.length := (by omega)
  subst e
  exact q_i (by have h := hv3; rwa [List.take_length] at h ⊢)

theorem ref11Run (I : IMap) (vc : Value) (c : List Kind) (hvc : RdS I vc c) (hsc : SmC c) (v : Value) (l : List Evt) (hv : RdS I v l) (hl : l.length ≤ 1000000) (hse : ∀ e ∈ l, SmE e) :
    FnI Tryz.prog 69 #[.agg #[vc], v] I (fun u J => ∃ w, u = .tuple #[.agg #[w], .int .i64 (runF c l).2.1, .int .i64 (runF c l).2.2] ∧ RdS J w (runF c l).1) := by
 refine enter Tryz.func69 Tryz.call69 rfl Tryz.ntmps69 rfl (fun w0 => ?_)
 refine go 3 ?_
 refine o_box _ rfl rfl rfl (fun g2 => ?_)
 refine go 1 ?_
 refine o_alloc he rfl (fun g4 => ?_)
 refine go 9 ?_
 refine o_callV (refValid _ vc c hvc hsc) rfl rfl ?_
 refine go 3 ?_
 refine cb rfl (fun h14 p14 => ?_) (fun h14 p14 => ?_)
 ·refine go 3 ?_
  refine o_val rfl (v_build (pl := [(0, 1)]) he he rfl rfl) ?_
  refine go 1 ?_
  refine o_stw _ he rfl rfl rfl rfl rfl rfl ?_
  refine go 6 ?_
  refine fin3 rfl ⟨_, _, _, rfl, m0, .inr ⟨_, he, rfl, rfl⟩⟩ rfl rfl ?_
  have hr : runF c l = ([], -1, 1) := by unfold runF; rw [if_pos (by rw [valid_same]; simpa using h14)]
  exact q_i ⟨_, by rw [hr], by rw [hr]; exact RdS.nil'⟩
 ·have hC : validC c = true := by rw [valid_same]; simpa using h14
  refine go 6 ?_
  refine o_call (ref11Sort _ v l hv hl) rfl rfl (fun v17 I17 j17 q17 => ?_)
  have hvc := hvc.le j17
  have q17s := q17
  obtain ⟨A17, c17, rfl, hA17, _, _⟩ := q17
  have hsl := sortF_len l
  refine go 6 ?_
  refine o_alloc he rfl (fun g8 => ?_)
  refine go 9 ?_
  refine c_loop4 (0) ([]) (.slice none 0 0) (I17) (fun i st v8 J => J)
   (fun i st v8 J => [(2, .pointer (some ⟨g2, 0, none⟩)), (4, .pointer (some ⟨g4, 0, none⟩)), (7, .slice A17 (sortF l).length c17), (8, .pointer (some ⟨g8, 0, none⟩)), (9, .int .i64 ((i : Nat) : Int))])
   (fun i st v8 J => [.blk g8 81 [v8], .blk g4 81 [.slice none 0 0], .blk g2 25 [vc]])
   (fun i st v8 J => i ≤ (sortF l).length ∧ ILe I17 J ∧ RdS J v8 st ∧ SmF st ∧ runGo c [] 0 (sortF l) = runGo c st (i : Nat) ((sortF l).drop i))
   (fun i st v8 J => (sortF l).length - i) ⟨Nat.zero_le _, ILe.refl _, RdS.nil', SmF.nil, rfl⟩ rfl sb rfl ?_
  intro i st v8 J ⟨hi, hJ, hv8, hsf, hgo⟩
  have hvc := hvc.le hJ
  have hA17 := hA17.le hJ
  refine go 9 ?_
  refine cb rfl (fun h21 p21 => ?_) (fun h21 p21 => ?_)
  ·have hlt : i < (sortF l).length := by omega
   refine go 5 ?_
   refine sx_knowI (fun hE8 hf8 => ?_)
   refine d_startH T.mixed ?_
   refine d_tv 0 rfl rfl (by kernel_rfl) rfl (.refl _) rfl (v_ldw m2 he rfl rfl) ?_
   refine d_tv 1 rfl rfl (by kernel_rfl) rfl (.refl _) rfl (v_ldw m0 he rfl rfl) ?_
   refine d_tv 2 rfl rfl (by kernel_rfl) rfl (.refl _) rfl (v_move rfl) ?_
   refine d_tv 3 rfl rfl (by kernel_rfl) rfl (.refl _) rfl (v_move rfl) ?_
   obtain ⟨b29, o29, w29, e29, c29, r29⟩ := RdA.at_ hA17 (i := i) hlt
   obtain rfl := r29
   refine d_tv 4 rfl rfl (by kernel_rfl) rfl (.refl _) rfl (v_idx he rfl rfl e29 (i) (by omega) hlt) ?_
   refine d_tv 5 rfl rfl (by kernel_rfl) rfl (.refl _) rfl (v_ldIa he rfl c29 rfl) ?_
   refine d_two 6 10 (by kernel_rfl) rfl rfl ?_ ?_
   ·refine o_call (ref10Apply _ vc c hvc hsc _ st hv8 hsf (sortF l)[i] (hse _ (sortF_mem.1 (List.getElem_mem hlt)))) rfl rfl (fun v31 I31 j31 q31 => ?_)
    obtain ⟨w31, rfl, hw31⟩ := q31
    refine d_on (fun _ m => m.keepsI (.refl _) (j31) hE8 hf8) ?_
    refine d_t 7 rfl rfl (by kernel_rfl) rfl (fun _ m => m.keepsI (.refl _) (j31) hE8 hf8) (y_v rfl (v_move rfl)) ?_
    refine d_t 8 rfl rfl (by kernel_rfl) rfl (fun _ m => m.keepsI (.refl _) (j31) hE8 hf8) (y_v rfl (v_extract rfl rfl)) ?_
    refine d_t 9 rfl rfl (by kernel_rfl) rfl (fun _ m => m.keepsI (.refl _) (j31) hE8 hf8) (y_v rfl (v_extract rfl rfl)) ?_
    refine d_one 10 (by kernel_rfl) rfl ?_
    refine o_alloc he rfl (fun g10 => ?_)
    refine d_on (fun _ m => m.keepsI (.cons _ (.refl _)) (j31) hE8 hf8) ?_
    refine d_one 11 (by kernel_rfl) rfl ?_
    refine o_stw _ he rfl rfl rfl rfl rfl (by simp [hw31.one]) ?_
    refine d_on (fun _ m => m.keepsI (.cons _ (.refl _)) (j31) hE8 hf8) ?_
    refine d_t 12 rfl rfl (by kernel_rfl) rfl (fun _ m => m.keepsI (.cons _ (.refl _)) (j31) hE8 hf8) (y_v rfl (v_assign rfl)) ?_
    refine d_done (by kernel_rfl) ?_
    refine go 8 ?_
    refine cb rfl (fun h35 p35 => ?_) (fun h35 p35 => ?_)
    ·have hok : ¬ (applyF c st (sortF l)[i]).2 = 0 := by simpa using p35
     refine go 3 ?_
     refine o_val rfl (v_build (pl := [(0, 1)]) he he rfl rfl) ?_
     refine go 3 ?_
     refine bring2 ?_
     refine o_stw _ he rfl rfl rfl rfl rfl rfl ?_
     refine go 11 ?_
     refine fin3 rfl ⟨_, _, _, rfl, m0, .inr ⟨_, he, rfl, rfl⟩⟩ rfl rfl ?_
     have hr : runF c l = ([], ((i : Nat) : Int), (applyF c st (sortF l)[i]).2) := by unfold runF; rw [if_neg (by simp [hC]), hgo, run_step hlt, if_neg hok]
     exact q_i ⟨_, by rw [hr]; rfl, by rw [hr]; exact RdS.nil'⟩
    ·have hok : (applyF c st (sortF l)[i]).2 = 0 := by simpa using p35
     refine go 5 ?_
     refine bring1 ?_
     refine o_stw _ he rfl rfl rfl rfl rfl (by simp [hw31.one]) ?_
     refine go 9 ?_
     refine bring1 ?_
     refine sx_drop ?_
     exact q_next4 (i + 1) (_) (_) (_) ⟨by omega, hJ.trans j31, hw31, applyF_sm hsf (hse _ (sortF_mem.1 (List.getElem_mem hlt))), by rw [hgo, run_step hlt, if_pos hok]; rfl⟩ (by omega) rfl sb rfl
   ·refine o_alloc he rfl (fun g10 => ?_)
    refine d_on (fun _ m => m.keeps (.cons _ (.refl _))) ?_
    refine d_one 6 (by kernel_rfl) rfl ?_
    refine o_call (ref10Apply _ vc c hvc hsc _ st hv8 hsf (sortF l)[i] (hse _ (sortF_mem.1 (List.getElem_mem hlt)))) rfl rfl (fun v31 I31 j31 q31 => ?_)
    obtain ⟨w31, rfl, hw31⟩ := q31
    refine d_on (fun _ m => m.keepsI (.cons _ (.refl _)) (j31) hE8 hf8) ?_
    refine d_t 7 rfl rfl (by kernel_rfl) rfl (fun _ m => m.keepsI (.cons _ (.refl _)) (j31) hE8 hf8) (y_v rfl (v_move rfl)) ?_
    refine d_t 8 rfl rfl (by kernel_rfl) rfl (fun _ m => m.keepsI (.cons _ (.refl _)) (j31) hE8 hf8) (y_v rfl (v_extract rfl rfl)) ?_
    refine d_t 9 rfl rfl (by kernel_rfl) rfl (fun _ m => m.keepsI (.cons _ (.refl _)) (j31) hE8 hf8) (y_v rfl (v_extract rfl rfl)) ?_
    refine d_one 11 (by kernel_rfl) rfl ?_
    refine o_stw _ he rfl rfl rfl rfl rfl (by simp [hw31.one]) ?_
    refine d_on (fun _ m => m.keepsI (.cons _ (.refl _)) (j31) hE8 hf8) ?_
    refine d_t 12 rfl rfl (by kernel_rfl) rfl (fun _ m => m.keepsI (.cons _ (.refl _)) (j31) hE8 hf8) (y_v rfl (v_assign rfl)) ?_
    refine d_done (by kernel_rfl) ?_
    refine go 8 ?_
    refine cb rfl (fun h35 p35 => ?_) (fun h35 p35 => ?_)
    ·have hok : ¬ (applyF c st (sortF l)[i]).2 = 0 := by simpa using p35
     refine go 3 ?_
     refine o_val rfl (v_build (pl := [(0, 1)]) he he rfl rfl) ?_
     refine go 3 ?_
     refine bring2 ?_
     refine o_stw _ he rfl rfl rfl rfl rfl rfl ?_
     refine go 11 ?_
     refine fin3 rfl ⟨_, _, _, rfl, m0, .inr ⟨_, he, rfl, rfl⟩⟩ rfl rfl ?_
     have hr : runF c l = ([], ((i : Nat) : Int), (applyF c st (sortF l)[i]).2) := by unfold runF; rw [if_neg (by simp [hC]), hgo, run_step hlt, if_neg hok]
     exact q_i ⟨_, by rw [hr]; rfl, by rw [hr]; exact RdS.nil'⟩
    ·have hok : (applyF c st (sortF l)[i]).2 = 0 := by simpa using p35
     refine go 5 ?_
     refine bring1 ?_
     refine o_stw _ he rfl rfl rfl rfl rfl (by simp [hw31.one]) ?_
     refine go 9 ?_
     refine bring1 ?_
     refine sx_drop ?_
     exact q_next4 (i + 1) (_) (_) (_) ⟨by omega, hJ.trans j31, hw31, applyF_sm hsf (hse _ (sortF_mem.1 (List.getElem_mem hlt))), by rw [hgo, run_step hlt, if_pos hok]; rfl⟩ (by omega) rfl sb rfl
  ·refine go 9 ?_
   refine bring1 ?_
   refine o_stw _ he rfl rfl rfl rfl rfl (by simp [hv8.one]) ?_
   refine go 5 ?_
   refine fin3 rfl ⟨_, _, _, rfl, m0, .inr ⟨_, he, rfl, rfl⟩⟩ rfl rfl ?_
   have hr : runF c l = (st, -1, 0) := by unfold runF; rw [if_neg (by simp [hC]), hgo, List.drop_eq_nil_of_le (by omega)]; rfl
   exact q_i ⟨_, by rw [hr], by rw [hr]; exact hv8⟩

theorem ref11At (I : IMap) (vc : Value) (c : List Kind) (hvc : RdS I vc c) (hsc : SmC c) (v : Value) (l : List Evt) (hv : RdS I v l) (hl : l.length ≤ 1000000) (hse : ∀ e ∈ l, SmE e) (day : Int) :
    FnI Tryz.prog 47 #[.agg #[vc], v, .int .i64 day] I (fun u J => ∃ w, u = .tuple #[.agg #[w], .int .i64 (atF11 c l day).2.1, .int .i64 (atF11 c l day).2.2] ∧ RdS J w (atF11 c l day).1) := by
 refine enter Tryz.func47 Tryz.call47 rfl Tryz.ntmps47 rfl (fun w0 => ?_)
 refine go 3 ?_
 refine o_box _ rfl rfl rfl (fun g3 => ?_)
 refine go 1 ?_
 refine o_alloc he rfl (fun g6 => ?_)
 refine go 5 ?_
 refine sx_knowI (fun hE1 hf1 => ?_)
 refine d_start1 T.mixed ?_
 refine d_tv 0 rfl rfl (by kernel_rfl) rfl (.cons _ (.refl _)) rfl (v_ldw m0 he rfl rfl) ?_
 refine d_tv 1 rfl rfl (by kernel_rfl) rfl (.cons _ (.refl _)) rfl (v_move rfl) ?_
 refine d_tv 2 rfl rfl (by kernel_rfl) rfl (.cons _ (.refl _)) rfl (v_move rfl) ?_
 refine d_one 3 (by kernel_rfl) rfl ?_
 refine o_call (ref11Up _ v l hv hl day) rfl rfl (fun v12 I12 j12 q12 => ?_)
 have hvc := hvc.le j12
 refine d_on (fun _ m => m.keepsI (.cons _ (.refl _)) (j12) hE1 hf1) ?_
 refine d_one 4 (by kernel_rfl) rfl ?_
 refine o_call (ref11Run _ vc c hvc hsc _ (l.filter fun e => !decide (e.day > day)) q12 (Nat.le_trans (List.length_filter_le _ _) hl) (fun e he => hse e (List.mem_filter.1 he).1)) rfl rfl (fun v13 I13 j13 q13 => ?_)
 obtain ⟨w13, rfl, hw13⟩ := q13
 refine d_on (fun _ m => m.keepsI (.cons _ (.refl _)) ((j12).trans j13) hE1 hf1) ?_
 refine d_t 5 rfl rfl (by kernel_rfl) rfl (fun _ m => m.keepsI (.cons _ (.refl _)) ((j12).trans j13) hE1 hf1) (y_v rfl (v_extract rfl rfl)) ?_
 refine d_t 6 rfl rfl (by kernel_rfl) rfl (fun _ m => m.keepsI (.cons _ (.refl _)) ((j12).trans j13) hE1 hf1) (y_v rfl (v_extract rfl rfl)) ?_
 refine d_t 7 rfl rfl (by kernel_rfl) rfl (fun _ m => m.keepsI (.cons _ (.refl _)) ((j12).trans j13) hE1 hf1) (y_v rfl (v_extract rfl rfl)) ?_
 refine d_one 8 (by kernel_rfl) rfl ?_
 refine o_stw _ he rfl rfl rfl rfl rfl (by simp [RdS.one hw13]) ?_
 refine d_on (fun _ m => m.keepsI (.cons _ (.refl _)) ((j12).trans j13) hE1 hf1) ?_
 refine d_t 9 rfl rfl (by kernel_rfl) rfl (fun _ m => m.keepsI (.cons _ (.refl _)) ((j12).trans j13) hE1 hf1) (y_v rfl (v_assign rfl)) ?_
 refine d_t 10 rfl rfl (by kernel_rfl) rfl (fun _ m => m.keepsI (.cons _ (.refl _)) ((j12).trans j13) hE1 hf1) (y_v rfl (v_assign rfl)) ?_
 refine d_done (by kernel_rfl) ?_
 refine go 2 ?_
 refine fin3 rfl ⟨_, _, _, rfl, m0, .inr ⟨_, he, rfl, rfl⟩⟩ rfl rfl ?_
 exact q_i ⟨_, rfl, hw13⟩

end Go.Proofs.YtdkjmaoelojpeaaGreat

/- Walks, printed by a program out of the code of the functions: each theorem is a contract of one function. -/
namespace Go.Proofs.YtdkjmaoelojpeaaGreat
open Go Go.Sx
set_option linter.all false
set_option maxRecDepth 20000
set_option maxHeartbeats 4000000
instance T.und_129 : Has (Tryz.prog.underlying 129) (.int .u64) := ⟨by kernel_rfl⟩
theorem len64 (I : IMap) (n : Nat) (hn : n < 200) :
    FnE Tryz.prog 81 #[.int .u64 ((n : Nat) : Int)] I (fun u => ∃ k : Nat, u = .int .i64 (k : Int)) := by
 refine enter Tryz.func81 Tryz.call81 rfl Tryz.ntmps81 rfl (fun w0 => ?_)
 refine go 9 ?_
 refine o_v rfl (OV.cast (u := .bool false) (v_geq rfl rfl) (congrArg Value.bool (decide_eq_false (by omega)))) ?_
 refine go 2 ?_
 refine c_false rfl ?_
 refine go 6 ?_
 refine o_v rfl (OV.cast (u := .bool false) (v_geq rfl rfl) (congrArg Value.bool (decide_eq_false (by omega)))) ?_
 refine go 2 ?_
 refine c_false rfl ?_
 refine go 6 ?_
 refine o_v rfl (OV.cast (u := .bool false) (v_geq rfl rfl) (congrArg Value.bool (decide_eq_false (by omega)))) ?_
 refine go 2 ?_
 refine c_false rfl ?_
 refine go 6 ?_
 refine o_v rfl (v_conv he he rfl (m := ((n : Nat) : Int)) (wrap_u8 n (by omega))) ?_
 refine o_v rfl (v_sidxK he rfl rfl n rfl (Nat.lt_of_lt_of_le hn (by decide +kernel))) ?_
 refine o_v rfl (v_conv he he rfl (conv_u8 _)) ?_
 refine o_v rfl (v_add rfl rfl (conv_add _)) ?_
 refine go 4 ?_
 refine fin1 rfl rfl ?_
 exact q_e ⟨_, by rw [Int.zero_add]⟩

theorem bitsLen (I : IMap) (n : Nat) (hn : n < 200) :
    FnE Tryz.prog 51 #[.int .u64 ((n : Nat) : Int)] I (fun u => ∃ k : Nat, u = .int .i64 (k : Int)) := by
 refine enter Tryz.func51 Tryz.call51 rfl Tryz.ntmps51 rfl (fun w0 => ?_)
 refine go 6 ?_
 refine c_false rfl ?_
 refine go 6 ?_
 refine o_callE (len64 _ n hn) rfl rfl (fun v7 q7 => ?_)
 obtain ⟨k, rfl⟩ := q7
 refine go 4 ?_
 refine fin1 rfl rfl ?_
 exact q_e ⟨_, rfl⟩

theorem insNil (I : IMap) :
    FnV Tryz.prog 92 #[.slice none 0 0, .int .i64 0, .int .i64 0] I (.tuple #[]) := by
 refine enter Tryz.func92 Tryz.call92 rfl Tryz.ntmps92 rfl (fun w0 => ?_)
 refine go 3 ?_
 refine o_v rfl (OV.cast (u := .int .i64 ((1 : Nat) : Int)) (v_add rfl rfl ⟨by omega, by omega⟩) (congrArg (Value.int .i64) (by omega))) ?_
 refine go 4 ?_
 refine c_loop (α := Nat) 0 (fun i => I)
  (fun i => [(2, .int .i64 0), (6, .int .i64 1)])
  (fun i => [])
  (fun i => True)
  (fun i => 0) trivial rfl sb rfl ?_
 intro i _
 refine go 5 ?_
 refine o_v rfl (OV.cast (u := .bool false) (v_lss rfl rfl) (congrArg Value.bool (decide_eq_false (by omega)))) ?_
 refine go 2 ?_
 refine c_false rfl ?_
 refine go 4 ?_
 refine end0 rfl ?_
 exact q_v rfl

theorem pdqNil (I : IMap) (z : Int) :
    FnV Tryz.prog 68 #[.slice none 0 0, .int .i64 0, .int .i64 0, .int .i64 z] I (.tuple #[]) := by
 refine enter Tryz.func68 Tryz.call68 rfl Tryz.ntmps68 rfl (fun w0 => ?_)
 refine go 11 ?_
 refine c_loop (α := Nat) 0 (fun i => I)
  (fun i => [(0, .slice none 0 0), (1, .int .i64 0), (2, .int .i64 0)])
  (fun i => [])
  (fun i => True)
  (fun i => 0) trivial rfl sb rfl ?_
 intro i _
 refine go 5 ?_
 refine o_v rfl (OV.cast (u := .int .i64 0) (v_sub rfl rfl ⟨by omega, by omega⟩) rfl) ?_
 refine go 7 ?_
 refine o_v rfl (OV.cast (u := .bool true) (v_leq rfl rfl) (congrArg Value.bool (decide_eq_true (by omega)))) ?_
 refine go 2 ?_
 refine c_true rfl ?_
 refine go 6 ?_
 refine o_callV (insNil _) rfl rfl ?_
 refine go 7 ?_
 refine fin0 rfl ?_
 exact q_v rfl

theorem sortNil (I : IMap) :
    FnV Tryz.prog 45 #[.slice none 0 0] I (.tuple #[]) := by
 refine enter Tryz.func45 Tryz.call45 rfl Tryz.ntmps45 rfl (fun w0 => ?_)
 refine go 11 ?_
 refine o_v rfl (v_conv he he rfl (m := ((0 : Nat) : Int)) (wrap_u64 _ (by omega) (by omega))) ?_
 refine go 1 ?_
 refine o_callE (bitsLen _ 0 (by omega)) rfl rfl (fun v9 q9 => ?_)
 obtain ⟨z, rfl⟩ := q9
 refine go 1 ?_
 refine o_callV (pdqNil _ z) rfl rfl ?_
 refine go 1 ?_
 refine end0 rfl ?_
 exact q_v rfl

end Go.Proofs.YtdkjmaoelojpeaaGreat

/- Maps whose keys are structs of numbers, strings and truth values. -/
set_option linter.all false
namespace Go.Sx
open Go
/-- a key that can be hashed -/
def chkV (P : Program) : Nat → TypeId → Value → Bool
  | 0, _, _ => false
  | d + 1, t, x => match P.underlying t with
    | some .bool | some (.int _) | some .string => true
    | some (.struct fs) => match x with
      | .agg xs => fs.toList.all fun f => match partV P f.type xs.toList f.offset with | some v => chkV P d f.type v | none => false
      | _ => false
    | _ => false
theorem chkV_run {P : Program} {b : Bool} : ∀ (d : Nat) (t : TypeId) (v : Value), chkV P d t v = true → ∀ (n : Nat), d ≤ n → ∀ w : World, (Instr.checkKey b n t v).run P w = .ok () w
  | 0, _, _, h, _, _, _ => by simp [chkV] at h
  | d + 1, t, v, h, n, hn, w => by
    obtain ⟨n, rfl⟩ : ∃ q, n = q + 1 := ⟨n - 1, by omega⟩
    rw [chkV] at h
    rw [Instr.checkKey]
    split at h
    · rename_i hu; simp [run_underlying hu]
    · rename_i hu; simp [run_underlying hu]
    · rename_i hu; simp [run_underlying hu]
    · rename_i fs hu
      split at h
      · rename_i xs
        simp only [Sem.run_bind, run_underlying hu, Result.andThen_ok]
        rw [← Array.forIn_toList]
        have key : ∀ l : List Field, (∀ f ∈ l, (match partV P f.type xs.toList f.offset with | some v => chkV P d f.type v | none => false) = true) → ∀ w : World,
            (forIn l PUnit.unit fun f (_ : PUnit) => do
              if f.name ≠ "_" then do
                let __do_lift ← part f.type xs f.offset
                Instr.checkKey b n f.type __do_lift
                pure PUnit.unit
                pure (ForInStep.yield PUnit.unit)
              else do
                pure PUnit.unit
                pure (ForInStep.yield PUnit.unit) : Sem PUnit).run P w = .ok () w := by
          intro l
          induction l with
          | nil => intro _ w; simp
          | cons f l ih =>
            intro hl w
            have h1 := hl f (by simp)
            split at h1
            · rename_i v hv
              have e1 := partV_run hv w
              have e2 := chkV_run (b := b) d f.type v h1 n (by omega) w
              have e3 := ih (fun g hg => hl g (by simp [hg])) w
              rw [List.forIn_cons]
              by_cases hf : f.name ≠ "_"
              · simp only [if_pos hf, Sem.run_bind, e1, Result.andThen_ok, e2, Sem.run_pure]
                exact e3
              · simp only [if_neg hf, Sem.run_bind, Result.andThen_ok, Sem.run_pure]
                exact e3
            · cases h1
        have := key fs.toList (by rw [List.all_eq_true] at h; exact h) w
        rw [this]
        simp
      · cases h
    · cases h
def structK (P : Program) (kt : TypeId) : Bool := match P.underlying kt with
  | some (.struct _) => true
  | _ => false
theorem key_struct {κ : Type} [DecidableEq κ] {P : Program} {kt : TypeId} {cells : κ → List Value} (h : structK P kt = true) (he : ∀ p q, eqV P 9 kt (.agg (cells p).toArray) (.agg (cells q).toArray) = some (decide (p = q)))
    (hc : ∀ p, chkV P 9 kt (.agg (cells p).toArray) = true) (hb : ∀ p, (cells p).all (fun v => Instr.sameBits 9999 v v) = true) : KeyOK P kt (fun p => .agg (cells p).toArray) where
  find := by
    obtain ⟨fs, h1⟩ : ∃ fs, P.underlying kt = some (.struct fs) := by
      unfold structK at h
      split at h
      · rename_i fs hfs; exact ⟨fs, hfs⟩
      · cases h
    intro w k es kvs hes
    have key : ∀ (es : List MapEntry) (kvs : List (κ × Value)) (i : Nat), es.map (fun e => (e.key, e.val)) = emap (fun p => .agg (cells p).toArray) kvs → (Instr.findAsking kt (.agg (cells k).toArray) es i).run P w = .ok (mfind kvs k i) w := by
      intro es
      induction es with
      | nil => intro kvs i he; cases kvs <;> simp_all [emap, Instr.findAsking, mfind]
      | cons e es ih =>
        intro kvs i hes
        cases kvs with
        | nil => simp [emap] at hes
        | cons p kvs =>
          obtain ⟨k', v⟩ := p
          simp only [List.map_cons, emap, List.cons.injEq, Prod.mk.injEq] at hes
          obtain ⟨⟨h1, h2⟩, h3⟩ := hes
          have hr := eqV_run (P := P) 9 kt _ _ _ (he k k') 10000 (by omega) w
          simp only [Instr.findAsking, h1, Sem.run_bind, Op.equal, Op.maxDepth, hr, Result.andThen_ok]
          by_cases hk : k' = k
          · subst hk; simp [mfind, h2]
          · have : ¬ k = k' := fun e => hk e.symm
            simp only [this, decide_false, Bool.false_eq_true, if_false, mfind, if_neg hk]
            exact ih kvs (i + 1) h3
    simp only [Instr.findKey, Sem.run_bind, run_underlying h1, Result.andThen_ok]
    cases es with
    | nil => cases kvs <;> simp_all [emap, Instr.findNow, mfind]
    | cons e es =>
      have : Instr.findNow (.struct fs) (.agg (cells k).toArray) (e :: es) 0 = none := by simp [Instr.findNow, Instr.sameNow]
      simp only [this]
      exact key _ kvs 0 hes
  check := fun w b k => chkV_run 9 kt _ (hc k) 10000 (by omega) w
  same := by
    intro k
    show Instr.sameBits (9999 + 1) (.agg (cells k).toArray) (.agg (cells k).toArray) = true
    have := hb k
    rw [List.all_eq_true] at this
    simp only [Instr.sameBits, beq_self_eq_true, Bool.true_and, List.all_eq_true]
    intro p hp
    obtain ⟨i, hi, rfl⟩ := List.getElem_of_mem hp
    simp only [List.getElem_zip]
    exact this _ (List.getElem_mem _)
theorem bits_str (n : Nat) (s : ByteArray) : Instr.sameBits n (.string s) (.string s) = true := by
  have hs : (s == s) = true := by rw [ba_beq]; simp
  cases n <;> simp [Instr.sameBits, hs]
theorem bits_int (n : Nat) (k : IntKind) (i : Int) : Instr.sameBits n (.int k i) (.int k i) = true := by cases n <;> simp [Instr.sameBits]
end Go.Sx

/- A block that is lent to a callee that makes memory of its own; calls with a tail of resources. -/
set_option linter.all false
namespace Go.Sx
open Go
section
variable {P : Program} {ρ : Option Nat} {n : Sz} {E : Ent} {I : IMap} {L : LL} {H : List Res} {Q : Exit → Act → World → Prop} {ops : Array Oper} {K : Act → World → Prop}
variable {d ty : Nat} {pos : String} {af : Array Edge} {fo : Operand} {as_ : List Operand} {ats : Array TypeId} {f : FuncId} {args : List Value} {g t : Nat} {cs : List Value} {w : World}
end
section
variable {P : Program} {n : Sz} {E : Ent} {I : IMap} {L : LL} {H : List Res} {K : Act → World → Prop}
theorem sx_app1' {a : Res} (h : SX n E I L (a :: H) K) : SX n E I L ([a] ++ H) K := h
end
/-- numbers in a block of their own -/
def intCs (ch : List Int) : List Value := ch.map ci
theorem intCs_flat {I : IMap} (ch : List Int) : Flat I (intCs ch) ch := by
  induction ch with
  | nil => exact .nil
  | cons x r ih => exact .cons rfl ih
section
variable {P : Program} {ρ : Option Nat} {n : Sz} {E : Ent} {I I' : IMap} {L : LL} {H H0 : List Res} {Q : Exit → Act → World → Prop} {ops : Array Oper} {K : Act → World → Prop}
variable {d ty : Nat} {pos : String} {af : Array Edge} {fo : Operand} {as_ : List Operand} {ats : Array TypeId} {f : FuncId} {args : List Value}
theorem o_callH0 {post : Value → IMap → List Res → Prop} (hc : FnH P f args.toArray I [] post) (h : callArgs L fo as_ = some (f, args)) (hd : Nat.blt d n.sz = true)
    (k : ∀ v I' H', ILe I I' → post v I' H' → SX n E I' ((d, v) :: L) (H' ++ H0) K) :
    SX n E I L H0 (one P ops Q ⟨some d, .call { callee := .value fo, args := as_.toArray, argTypes := ats }, ty, pos, af, none⟩ K) := o_callH (Hc := []) hc h hd k
end
end Go.Sx

/- Going through a map of the call's own, in whatever order; taking keys out of it. -/
set_option linter.all false
namespace Go.Sx
open Go
open Go.ChangeMaps (setBlock)
/-- how far a range over a map is -/
structure ItS where
  es : Array MapEntry
  clock : Nat
  seen : Array Nat
def ItS.it (S : ItS) (m : Nat) : Obj := .mapIter (some m) S.clock S.seen S.clock
def ItS.mp (S : ItS) : Obj := .map S.es S.clock
structure ItS.Ok {κ : Type} (enc : κ → Value) (kvs : List (κ × Value)) (S : ItS) : Prop where
  all : S.es.toList.map (fun e => (e.key, e.val)) = emap enc kvs
  nd : (S.es.toList.map (·.born)).Nodup
  old : ∀ e ∈ S.es.toList, e.born < S.clock
/-- what is still to come -/
def ItS.Todo {κ : Type} (enc : κ → Value) (todo : List (κ × Value)) (S : ItS) : Prop := (leftOf S.es S.seen).toList.map (fun e => (e.key, e.val)) = emap enc todo
/-- what has just come -/
def ItS.At {κ : Type} (enc : κ → Value) (p : κ × Value) (S : ItS) : Prop := ∃ (e : MapEntry) (seen0 : Array Nat), S.seen = seen0.push e.born ∧ e ∈ S.es.toList ∧ e.key = enc p.1 ∧ e.val = p.2
/-- one step -/
inductive ItS.Step {κ : Type} (enc : κ → Value) (kvs todo : List (κ × Value)) (S : ItS) : Option (κ × Value) → ItS → List (κ × Value) → Prop
  | over (h : todo = []) : ItS.Step enc kvs todo S none S todo
  | come (p : κ × Value) (a b : List (κ × Value)) (S' : ItS) (h : todo = a ++ p :: b) (h1 : S'.Ok enc kvs) (h2 : S'.Todo enc (a ++ b)) (h3 : S'.At enc p) : ItS.Step enc kvs todo S (some p) S' (a ++ b)
def nextA {κ : Type} (enc : κ → Value) : Option (κ × Value) → Array Value
  | none => #[.bool false]
  | some p => #[.bool true, enc p.1, p.2]
theorem nextA_0 {κ : Type} (enc : κ → Value) (q : Option (κ × Value)) : (nextA enc q)[0]? = some (.bool q.isSome) := by cases q <;> rfl
theorem emap_mid {κ : Type} {enc : κ → Value} {x : Value × Value} : ∀ {l a b : List (Value × Value)} {todo : List (κ × Value)}, l = emap enc todo → l = a ++ x :: b → ∃ (p : κ × Value) (a' b' : List (κ × Value)), todo = a' ++ p :: b' ∧ emap enc a' = a ∧ emap enc b' = b ∧ (enc p.1, p.2) = x
  | _, a, b, todo, rfl, h => by
    have h1 : todo.map (fun p => (enc p.1, p.2)) = a ++ x :: b := h
    obtain ⟨a', c', rfl, h2, h3⟩ := List.map_eq_append_iff.1 h1
    obtain ⟨p, b', rfl, h4, h5⟩ := List.map_eq_cons_iff.1 h3
    exact ⟨p, a', b', rfl, h2, h5, h4⟩
section
variable {P : Program} {ρ : Option Nat} {n : Sz} {E : Ent} {I : IMap} {L : LL} {H : List Res} {Q : Exit → Act → World → Prop} {ops : Array Oper} {K : Act → World → Prop}
variable {d ty : Nat} {pos : String} {af : Array Edge} {x y : Operand} {κ : Type} [DecidableEq κ] {enc : κ → Value} {kvs todo : List (κ × Value)} {S : ItS} {m r : Nat}
theorem sx_openmap (h : ∀ S : ItS, S.Ok enc kvs → S.Todo enc kvs → S.seen = #[] → SX n E I L (.any m S.mp :: H) K) : SX n E I L (.mp m (emap enc kvs) :: H) K := by
  intro a w s mm
  obtain ⟨entries, clock, h1, h2, h3, h4⟩ := mm.mp (List.mem_cons_self ..)
  refine h ⟨entries, clock, #[]⟩ ⟨h2, h3, h4⟩ ?_ rfl a w s (mm.step rfl ⟨rfl, Nat.le_refl _⟩ rfl (Nat.le_refl _) (fun _ _ _ => rfl) h1 (fun g hg => .inl hg))
  unfold ItS.Todo leftOf
  rw [show (entries.filter fun e => !(#[] : Array Nat).contains e.born) = entries from Array.filter_eq_self.2 (fun x hx => by simp)]
  exact h2
theorem o_rangeG {mt kt et : Nat} (hm : ∀ w, Mem E I H w → w.heap[m]? = some S.mp) (hS : S.seen = #[]) (ht : P.underlying mt = some (.map kt et)) (hx : ev L x = some (.map (some m))) (hd : Nat.blt d n.sz = true)
    (k : ∀ r, SX n E I ((d, .pointer (some ⟨r, 0, none⟩)) :: L) (.any r (S.it m) :: H) K) : SX n E I L H (one P ops Q ⟨some d, .range mt x, ty, pos, af, none⟩ K) :=
  o_gen (fun r : Nat => .pointer (some ⟨r, 0, none⟩)) (fun _ => I) (fun r => .any r (S.it m) :: H) (fun _ => True) hd
    (fun a w st mm => by
      have hb : w.heap[m]? = some (.map S.es S.clock) := hm w mm
      refine ⟨w.heap.size, w.alloc (.mapIter (some m) S.clock #[] S.clock), trivial, ?_, mm.new rfl ⟨rfl, Nat.le_refl _⟩ rfl (by simp) (fun k hk => Below_old w _ k hk) (by show (w.alloc _).heap[w.heap.size]? = _; rw [heap_alloc_new]; simp [ItS.it, hS]) (fun g hg => by simp only [Res.foot, Option.some.injEq] at hg; omega)⟩
      simp only [execOp, st.ev hx, Sem.run_bind, run_range_map w mt kt et m S.es S.clock ht hb, Result.andThen_ok, Sem.run_pure]) fun r _ => k r
theorem o_range {mt kt et : Nat} (hS : S.seen = #[]) (ht : P.underlying mt = some (.map kt et)) (hx : ev L x = some (.map (some m))) (hd : Nat.blt d n.sz = true)
    (k : ∀ r, SX n E I ((d, .pointer (some ⟨r, 0, none⟩)) :: L) (.any r (S.it m) :: .any m S.mp :: H) K) : SX n E I L (.any m S.mp :: H) (one P ops Q ⟨some d, .range mt x, ty, pos, af, none⟩ K) :=
  o_rangeG (fun w mm => mm.holds _ (List.mem_cons_self ..)) hS ht hx hd k
theorem Mem.setBlock {w : World} {o o' : Obj} (mm : Mem E I (.any r o :: H) w) : Mem E I (.any r o' :: H) (setBlock w r o') := by
  have hr : w.heap[r]? = some o := mm.holds _ (List.mem_cons_self ..)
  have hlt : r < w.heap.size := (Array.getElem?_eq_some_iff.1 hr).1
  refine mm.step rfl ⟨rfl, Nat.le_refl _⟩ rfl (by simp [ChangeMaps.setBlock]) (fun k hk hne => ?_) (by show (ChangeMaps.setBlock w r o').heap[r]? = _; simp [ChangeMaps.setBlock, hlt]) (fun g hg => .inl hg)
  have : r ≠ k := fun e => hne (by rw [← e]; rfl)
  simp [ChangeMaps.setBlock, Array.getElem?_setIfInBounds_ne this]
theorem o_nextG (hm : ∀ w, Mem E I (.any r (S.it m) :: H) w → w.heap[m]? = some S.mp) (hO : S.Ok enc kvs) (hT : S.Todo enc todo) (hx : ev L x = some (.pointer (some ⟨r, 0, none⟩))) (hd : Nat.blt d n.sz = true)
    (k : ∀ q S' todo', ItS.Step enc kvs todo S q S' todo' → S'.mp = S.mp → SX n E I ((d, .tuple (nextA enc q)) :: L) (.any r (S'.it m) :: H) K) :
    SX n E I L (.any r (S.it m) :: H) (one P ops Q ⟨some d, .next x false, ty, pos, af, none⟩ K) :=
  o_gen (α := Option (κ × Value) × ItS × List (κ × Value)) (fun z => .tuple (nextA enc z.1)) (fun _ => I) (fun z => .any r (z.2.1.it m) :: H) (fun z => ItS.Step enc kvs todo S z.1 z.2.1 z.2.2 ∧ z.2.1.mp = S.mp) hd
    (fun a w st mm => by
      have hr : w.heap[r]? = some (.mapIter (some m) S.clock S.seen S.clock) := mm.holds (.any r (S.it m)) (List.mem_cons_self ..)
      have hb : w.heap[m]? = some (.map S.es S.clock) := hm w mm
      rcases run_next_at (P := P) w ty r m S.clock S.clock S.seen S.es S.clock hr hb hO.old (Nat.le_refl _) with ⟨h0, hrun⟩ | ⟨e, he, w1, hw1, hrun⟩
      · refine ⟨(none, S, todo), w, ⟨.over ?_, rfl⟩, by simp only [execOp, st.ev hx, Sem.run_bind, hrun, Result.andThen_ok, Sem.run_pure]; rfl, mm⟩
        have h1 : (leftOf S.es S.seen).toList = [] := List.eq_nil_of_length_eq_zero (by simpa using h0)
        unfold ItS.Todo at hT
        rw [h1] at hT
        cases todo with
        | nil => rfl
        | cons p t => simp [emap] at hT
      · have hm1 : Mem E I (.any r (S.it m) :: H) w1 := by rcases hw1 with rfl | rfl; exact mm; exact mm.drew
        obtain ⟨l1, l2, hl⟩ := List.append_of_mem he
        have hT' := hT
        unfold ItS.Todo at hT'
        rw [hl, List.map_append, List.map_cons] at hT'
        obtain ⟨p, a', b', e1, e2, e3, e4⟩ := emap_mid hT'.symm.symm rfl
        have hmem : e ∈ S.es.toList := by
          have : e ∈ (S.es.filter fun e => !S.seen.contains e.born).toList := he
          simp at this; simpa using this.1
        have hnd : ((leftOf S.es S.seen).toList.map (·.born)).Nodup := by
          have hs : List.Sublist (leftOf S.es S.seen).toList S.es.toList := by
            unfold leftOf; rw [Array.toList_filter]; exact List.filter_sublist
          exact (hs.map _).nodup hO.nd
        have hleft : (leftOf S.es (S.seen.push e.born)).toList = l1 ++ l2 := by
          have h5 : (leftOf S.es (S.seen.push e.born)).toList = (leftOf S.es S.seen).toList.filter (fun y => !(y.born == e.born)) := by
            unfold leftOf
            rw [Array.toList_filter, Array.toList_filter, List.filter_filter]
            congr 1
            funext y
            simp only [Array.contains_push]
            cases S.seen.contains y.born <;> cases hq : (y.born == e.born) <;> simp_all
          rw [h5, hl, List.filter_append, List.filter_cons]
          rw [hl, List.map_append, List.map_cons] at hnd
          have hn := List.nodup_append.1 hnd
          have hn2 := List.nodup_cons.1 hn.2.1
          simp only [beq_self_eq_true, Bool.not_true, Bool.false_eq_true, if_false]
          congr 1
          · rw [List.filter_eq_self]
            intro y hy
            have : y.born ≠ e.born := hn.2.2 _ (List.mem_map_of_mem hy) _ (List.mem_cons_self ..)
            simpa using this
          · rw [List.filter_eq_self]
            intro y hy
            have : y.born ≠ e.born := fun h => hn2.1 (by rw [← h]; exact List.mem_map_of_mem hy)
            simpa using this
        refine ⟨(some p, ⟨S.es, S.clock, S.seen.push e.born⟩, a' ++ b'), setBlock w1 r (.mapIter (some m) S.clock (S.seen.push e.born) S.clock), ⟨.come p a' b' ⟨S.es, S.clock, S.seen.push e.born⟩ e1 ⟨hO.all, hO.nd, hO.old⟩ ?_ ⟨e, S.seen, rfl, hmem, ?_, ?_⟩, rfl⟩, ?_, ?_⟩
        · show (leftOf S.es (S.seen.push e.born)).toList.map _ = _
          rw [hleft, List.map_append, emap, List.map_append]
          rw [← e2, ← e3]; rfl
        · exact (congrArg Prod.fst e4).symm
        · exact (congrArg Prod.snd e4).symm
        · simp only [execOp, st.ev hx, Sem.run_bind, hrun, Result.andThen_ok, Sem.run_pure]
          rw [show e.key = enc p.1 from (congrArg Prod.fst e4).symm, show e.val = p.2 from (congrArg Prod.snd e4).symm]; rfl
        · exact Mem.setBlock hm1)
    fun z hz => k z.1 z.2.1 z.2.2 hz.1 hz.2
theorem o_next (hO : S.Ok enc kvs) (hT : S.Todo enc todo) (hx : ev L x = some (.pointer (some ⟨r, 0, none⟩))) (hd : Nat.blt d n.sz = true)
    (k : ∀ q S' todo', ItS.Step enc kvs todo S q S' todo' → SX n E I ((d, .tuple (nextA enc q)) :: L) (.any r (S'.it m) :: .any m S'.mp :: H) K) :
    SX n E I L (.any r (S.it m) :: .any m S.mp :: H) (one P ops Q ⟨some d, .next x false, ty, pos, af, none⟩ K) :=
  o_nextG (fun w mm => mm.holds (.any m S.mp) (List.mem_cons_of_mem _ (List.mem_cons_self ..))) hO hT hx hd fun q S' t' hs e => e ▸ k q S' t' hs
theorem v_entryG {p : κ × Value} (hm : ∀ w, Mem E I H w → w.heap[m]? = some S.mp) (h1 : Res.any r (S.it m) ∈ H) (hO : S.Ok enc kvs) (hA : S.At enc p) (hx : ev L x = some (.pointer (some ⟨r, 0, none⟩))) : OV P n E I L H ⟨some d, .entry x, ty, pos, af, none⟩ (.tuple #[enc p.1, p.2]) := fun a w st mm => by
  obtain ⟨e, seen0, hs, he, hk, hv⟩ := hA
  have hr : w.heap[r]? = some (.mapIter (some m) S.clock (seen0.push e.born) S.clock) := by
    have := mm.holds _ h1
    rw [← hs]; exact this
  have hb : w.heap[m]? = some (.map S.es S.clock) := hm w mm
  simp only [execOp, st.ev hx, Sem.run_bind, run_entry_at w r m S.clock seen0 S.es S.clock e hr hb he hO.nd, Result.andThen_ok, Sem.run_pure, hk, hv]
/-- a map that is given up: it can be read on, by whoever -/
theorem sx_pubmap (h : ∀ I', ILe I I' → I' m = some S.mp → SX n E I' L H K) : SX n E I L (.any m S.mp :: H) K := by
  intro a w s mm
  have hh : w.heap[m]? = some S.mp := mm.holds _ (List.mem_cons_self ..)
  exact h _ (IMap.pub_le _ (mm.priv _ (List.mem_cons_self ..) m rfl).1) (IMap.pub_same _ _ _) a w s (mm.pub (g := m) rfl hh)
theorem con_map (h : I m = some S.mp) : ∀ w, Mem E I H w → w.heap[m]? = some S.mp := fun w mm => mm.con m _ h
theorem v_entry {p : κ × Value} (h1 : Res.any r (S.it m) ∈ H) (h2 : Res.any m S.mp ∈ H) (hO : S.Ok enc kvs) (hA : S.At enc p) (hx : ev L x = some (.pointer (some ⟨r, 0, none⟩))) : OV P n E I L H ⟨some d, .entry x, ty, pos, af, none⟩ (.tuple #[enc p.1, p.2]) := fun a w st mm => by
  obtain ⟨e, seen0, hs, he, hk, hv⟩ := hA
  have hr : w.heap[r]? = some (.mapIter (some m) S.clock (seen0.push e.born) S.clock) := by
    have := mm.holds _ h1
    rw [← hs]; exact this
  have hb : w.heap[m]? = some (.map S.es S.clock) := mm.holds _ h2
  simp only [execOp, st.ev hx, Sem.run_bind, run_entry_at w r m S.clock seen0 S.es S.clock e hr hb he hO.nd, Result.andThen_ok, Sem.run_pure, hk, hv]
end
theorem ItS.Step.some {κ : Type} {enc : κ → Value} {kvs todo t' : List (κ × Value)} {S S' : ItS} {q : Option (κ × Value)} (h : ItS.Step enc kvs todo S q S' t') (hq : q.isSome = true) :
    ∃ p a b, todo = a ++ p :: b ∧ S'.Ok enc kvs ∧ S'.Todo enc (a ++ b) ∧ S'.At enc p ∧ q = .some p ∧ t' = a ++ b := by
  cases h with
  | over h => cases hq
  | come p a b S1 h h1 h2 h3 => exact ⟨p, a, b, h, h1, h2, h3, rfl, rfl⟩
theorem ItS.Step.none {κ : Type} {enc : κ → Value} {kvs todo t' : List (κ × Value)} {S S' : ItS} {q : Option (κ × Value)} (h : ItS.Step enc kvs todo S q S' t') (hq : q.isSome = false) : todo = [] ∧ q = .none ∧ S' = S := by
  cases h with
  | over h => exact ⟨h, rfl, rfl⟩
  | come p a b S1 h h1 h2 h3 => cases hq
theorem perm_step {α : Type} {done todo a b kvs : List α} {p : α} (hP : (done ++ todo).Perm kvs) (h : todo = a ++ p :: b) : (done ++ [p] ++ (a ++ b)).Perm kvs := by
  subst h
  refine List.Perm.trans ?_ hP
  rw [List.append_assoc]
  refine List.Perm.append_left _ ?_
  exact (List.perm_middle (a := p) (l₁ := a) (l₂ := b)).symm
end Go.Sx

/-
  DERIVED: THE SHELF's CONTRACTS AT THIS DUMP, IN PLAIN WORDS (tools/lay-plain.mjs out of 'YtdkjmaoelojpeaaGreatLayT.lean', which tools/lay-shelf.mjs wrote): THE SAME DECLARATIONS UNDER THE SAME NAMES: 'import', 'namespace', 'open', 'def', 'theorem' AND NOTHING ELSE: no command of the shelf's: FOR A HAND-IN. Each laying: the table of numbers ('.._ren') and one theorem, a field a fact of the dump's own or the kernel's comparison; each contract: ONE APPLICATION.
-/
namespace Go.Proofs
open Go.Shelf
def Tryz.layS_ren : Go.Shelf.Ren := ⟨fun | 190 => 45 | 125 => 51 | 258 => 68 | 128 => 80 | 129 => 81 | 302 => 92 | 303 => 93 | 304 => 94 | 305 => 95 | 306 => 96 | 307 => 97 | 308 => 98 | 309 => 99 | 310 => 100 | 333 => 115 | 329 => 105 | 330 => 106 | 334 => 116 | 335 => 117 | 336 => 118 | 344 => 144 | n => n, fun | 31 => 30 | 9 => 9 | 3 => 3 | 46 => 107 | 0 => 0 | 51 => 127 | 53 => 129 | 4 => 4 | 183 => 121 | 182 => 120 | 131 => 101 | 5 => 5 | 218 => 148 | 222 => 152 | 228 => 166 | 229 => 167 | n => n, fun | n => n⟩
theorem Tryz.layS : Go.Proofs.Lays.n190 Tryz.prog Tryz.layS_ren := {
  mixed := by kernel_rfl
  f125 := Tryz.func51.trans (congrArg some (by kernel_rfl))
  f128 := Tryz.func80.trans (congrArg some (by kernel_rfl))
  f129 := Tryz.func81.trans (congrArg some (by kernel_rfl))
  f190 := Tryz.func45.trans (congrArg some (by kernel_rfl))
  f258 := Tryz.func68.trans (congrArg some (by kernel_rfl))
  f302 := Tryz.func92.trans (congrArg some (by kernel_rfl))
  f303 := Tryz.func93.trans (congrArg some (by kernel_rfl))
  f304 := Tryz.func94.trans (congrArg some (by kernel_rfl))
  f305 := Tryz.func95.trans (congrArg some (by kernel_rfl))
  f306 := Tryz.func96.trans (congrArg some (by kernel_rfl))
  f307 := Tryz.func97.trans (congrArg some (by kernel_rfl))
  f308 := Tryz.func98.trans (congrArg some (by kernel_rfl))
  f309 := Tryz.func99.trans (congrArg some (by kernel_rfl))
  f310 := Tryz.func100.trans (congrArg some (by kernel_rfl))
  f329 := Tryz.func105.trans (congrArg some (by kernel_rfl))
  f330 := Tryz.func106.trans (congrArg some (by kernel_rfl))
  f333 := Tryz.func115.trans (congrArg some (by kernel_rfl))
  f334 := Tryz.func116.trans (congrArg some (by kernel_rfl))
  f335 := Tryz.func117.trans (congrArg some (by kernel_rfl))
  f336 := Tryz.func118.trans (congrArg some (by kernel_rfl))
  f344 := Tryz.func144.trans (congrArg some (by kernel_rfl))
  t0 := Tryz.underlying0
  a0 := Tryz.isAgg0
  z0 := Tryz.sizeOf0
  v0 := Tryz.zeroValue0
  t3 := Tryz.underlying3
  a3 := Tryz.isAgg3
  z3 := Tryz.sizeOf3
  v3 := Tryz.zeroValue3
  t4 := Tryz.underlying4
  a4 := Tryz.isAgg4
  z4 := Tryz.sizeOf4
  v4 := Tryz.zeroValue4
  t5 := Tryz.underlying5
  a5 := Tryz.isAgg5
  z5 := Tryz.sizeOf5
  v5 := Tryz.zeroValue5
  t9 := Tryz.underlying9
  a9 := Tryz.isAgg9
  z9 := Tryz.sizeOf9
  v9 := Tryz.zeroValue9
  t31 := Tryz.underlying30
  a31 := Tryz.isAgg30
  z31 := Tryz.sizeOf30
  v31 := Tryz.zeroValue30
  t46 := Tryz.underlying107
  a46 := Tryz.isAgg107
  z46 := Tryz.sizeOf107
  v46 := Tryz.zeroValue107
  t51 := Tryz.underlying127
  a51 := Tryz.isAgg127
  z51 := Tryz.sizeOf127
  v51 := Tryz.zeroValue127
  t53 := Tryz.underlying129
  a53 := Tryz.isAgg129
  z53 := Tryz.sizeOf129
  v53 := Tryz.zeroValue129
  t131 := Tryz.underlying101
  a131 := Tryz.isAgg101
  z131 := Tryz.sizeOf101
  v131 := Tryz.zeroValue101
  t182 := Tryz.underlying120
  a182 := Tryz.isAgg120
  z182 := Tryz.sizeOf120
  v182 := Tryz.zeroValue120
  t183 := Tryz.underlying121
  a183 := Tryz.isAgg121
  z183 := Tryz.sizeOf121
  v183 := Tryz.zeroValue121
  t218 := Tryz.underlying148
  a218 := Tryz.isAgg148
  z218 := Tryz.sizeOf148
  v218 := Tryz.zeroValue148
  t222 := Tryz.underlying152
  a222 := Tryz.isAgg152
  z222 := Tryz.sizeOf152
  v222 := Tryz.zeroValue152
  t228 := Tryz.underlying166
  a228 := Tryz.isAgg166
  z228 := Tryz.sizeOf166
  v228 := Tryz.zeroValue166
  t229 := Tryz.underlying167
  a229 := Tryz.isAgg167
  z229 := Tryz.sizeOf167
  v229 := Tryz.zeroValue167 }
def Tryz.layC_ren : Go.Shelf.Ren := ⟨fun | 106 => 36 | 213 => 53 | 265 => 82 | n => n, fun | 9 => 9 | 3 => 3 | n => n, fun | n => n⟩
theorem Tryz.layC : Go.Proofs.Lays.n106 Tryz.prog Tryz.layC_ren := {
  mixed := by kernel_rfl
  f106 := Tryz.func36.trans (congrArg some (by kernel_rfl))
  f213 := Tryz.func53.trans (congrArg some (by kernel_rfl))
  f265 := Tryz.func82.trans (congrArg some (by kernel_rfl))
  t3 := Tryz.underlying3
  a3 := Tryz.isAgg3
  z3 := Tryz.sizeOf3
  v3 := Tryz.zeroValue3
  t9 := Tryz.underlying9
  a9 := Tryz.isAgg9
  z9 := Tryz.sizeOf9
  v9 := Tryz.zeroValue9 }
def Tryz.layD_ren : Go.Shelf.Ren := ⟨fun | 6 => 32 | 15 => 51 | 14 => 50 | 28 => 80 | 29 => 81 | 20 => 72 | 21 => 73 | 22 => 74 | 23 => 75 | 24 => 76 | 25 => 77 | 26 => 78 | 27 => 79 | 46 => 104 | 47 => 105 | 48 => 106 | 49 => 107 | 50 => 108 | 57 => 125 | n => n, fun | 22 => 33 | 24 => 37 | 25 => 77 | 3 => 3 | 39 => 107 | 0 => 0 | 53 => 127 | 55 => 129 | 4 => 4 | 46 => 121 | 45 => 120 | 50 => 101 | 5 => 5 | 9 => 9 | 66 => 148 | 70 => 152 | 76 => 166 | 77 => 167 | n => n, fun | n => n⟩
theorem Tryz.layD : Go.Proofs.SlLaysF0.n6 Tryz.prog Tryz.layD_ren := {
  mixed := by kernel_rfl
  f6 := ⟨Tryz.f32.name, by decide, Tryz.func32.trans (congrArg some (by kernel_rfl))⟩
  f14 := ⟨Tryz.f50.name, by decide, Tryz.func50.trans (congrArg some (by kernel_rfl))⟩
  f15 := Tryz.func51.trans (congrArg some (by kernel_rfl))
  f20 := ⟨Tryz.f72.name, by decide, Tryz.func72.trans (congrArg some (by kernel_rfl))⟩
  f21 := ⟨Tryz.f73.name, by decide, Tryz.func73.trans (congrArg some (by kernel_rfl))⟩
  f22 := ⟨Tryz.f74.name, by decide, Tryz.func74.trans (congrArg some (by kernel_rfl))⟩
  f23 := ⟨Tryz.f75.name, by decide, Tryz.func75.trans (congrArg some (by kernel_rfl))⟩
  f24 := ⟨Tryz.f76.name, by decide, Tryz.func76.trans (congrArg some (by kernel_rfl))⟩
  f25 := ⟨Tryz.f77.name, by decide, Tryz.func77.trans (congrArg some (by kernel_rfl))⟩
  f26 := ⟨Tryz.f78.name, by decide, Tryz.func78.trans (congrArg some (by kernel_rfl))⟩
  f27 := ⟨Tryz.f79.name, by decide, Tryz.func79.trans (congrArg some (by kernel_rfl))⟩
  f28 := Tryz.func80.trans (congrArg some (by kernel_rfl))
  f29 := Tryz.func81.trans (congrArg some (by kernel_rfl))
  f46 := ⟨Tryz.f104.name, by decide, Tryz.func104.trans (congrArg some (by kernel_rfl))⟩
  f47 := Tryz.func105.trans (congrArg some (by kernel_rfl))
  f48 := Tryz.func106.trans (congrArg some (by kernel_rfl))
  f49 := ⟨Tryz.f107.name, by decide, Tryz.func107.trans (congrArg some (by kernel_rfl))⟩
  f50 := ⟨Tryz.f108.name, by decide, Tryz.func108.trans (congrArg some (by kernel_rfl))⟩
  f57 := ⟨Tryz.f125.name, by decide, Tryz.func125.trans (congrArg some (by kernel_rfl))⟩
  t0 := Tryz.underlying0
  a0 := Tryz.isAgg0
  z0 := Tryz.sizeOf0
  v0 := Tryz.zeroValue0
  t3 := Tryz.underlying3
  a3 := Tryz.isAgg3
  z3 := Tryz.sizeOf3
  v3 := Tryz.zeroValue3
  t4 := Tryz.underlying4
  a4 := Tryz.isAgg4
  z4 := Tryz.sizeOf4
  v4 := Tryz.zeroValue4
  t5 := Tryz.underlying5
  a5 := Tryz.isAgg5
  z5 := Tryz.sizeOf5
  v5 := Tryz.zeroValue5
  t9 := Tryz.underlying9
  a9 := Tryz.isAgg9
  z9 := Tryz.sizeOf9
  v9 := Tryz.zeroValue9
  t22 := Tryz.underlying33
  a22 := Tryz.isAgg33
  z22 := Tryz.sizeOf33
  v22 := Tryz.zeroValue33
  t25 := Tryz.underlying77
  a25 := Tryz.isAgg77
  z25 := Tryz.sizeOf77
  v25 := Tryz.zeroValue77
  t39 := Tryz.underlying107
  a39 := Tryz.isAgg107
  z39 := Tryz.sizeOf107
  v39 := Tryz.zeroValue107
  t45 := Tryz.underlying120
  a45 := Tryz.isAgg120
  z45 := Tryz.sizeOf120
  v45 := Tryz.zeroValue120
  t46 := Tryz.underlying121
  a46 := Tryz.isAgg121
  z46 := Tryz.sizeOf121
  v46 := Tryz.zeroValue121
  t50 := Tryz.underlying101
  a50 := Tryz.isAgg101
  z50 := Tryz.sizeOf101
  v50 := Tryz.zeroValue101
  t53 := Tryz.underlying127
  a53 := Tryz.isAgg127
  z53 := Tryz.sizeOf127
  v53 := Tryz.zeroValue127
  t55 := Tryz.underlying129
  a55 := Tryz.isAgg129
  z55 := Tryz.sizeOf129
  v55 := Tryz.zeroValue129
  t66 := Tryz.underlying148
  a66 := Tryz.isAgg148
  z66 := Tryz.sizeOf148
  v66 := Tryz.zeroValue148
  t70 := Tryz.underlying152
  a70 := Tryz.isAgg152
  z70 := Tryz.sizeOf152
  v70 := Tryz.zeroValue152
  t76 := Tryz.underlying166
  a76 := Tryz.isAgg166
  z76 := Tryz.sizeOf166
  v76 := Tryz.zeroValue166
  t77 := Tryz.underlying167
  a77 := Tryz.isAgg167
  z77 := Tryz.sizeOf167
  v77 := Tryz.zeroValue167 }
end Go.Proofs

/- Walks, printed by a program out of the code of the functions: each theorem is a contract of one function. -/
namespace Go.Proofs.YtdkjmaoelojpeaaGreat
open Go Go.Sx
set_option linter.all false
set_option maxRecDepth 20000
set_option maxHeartbeats 4000000
instance T.by_3 : Has (bytesK Tryz.prog 3) ([.int .i64 0], 1, 8) := ⟨by kernel_rfl⟩
instance T.by_37 : Has (bytesK Tryz.prog 37) ([.string ⟨#[]⟩, .string ⟨#[]⟩, .int .i64 0], 3, 40) := ⟨by kernel_rfl⟩
instance T.elt_136 : Has (eltK Tryz.prog 136) (98, 1) := ⟨by kernel_rfl⟩
instance T.elt_22 : Has (eltK Tryz.prog 22) (43, 5) := ⟨by kernel_rfl⟩
instance T.elt_33 : Has (eltK Tryz.prog 33) (37, 3) := ⟨by kernel_rfl⟩
instance T.elt_70 : Has (eltK Tryz.prog 70) (3, 1) := ⟨by kernel_rfl⟩
instance T.fld_100_0 : Has (fldK Tryz.prog 100 0) (0, true, 5) := ⟨by kernel_rfl⟩
instance T.fld_37_1 : Has (fldK Tryz.prog 37 1) (1, false, 1) := ⟨by kernel_rfl⟩
instance T.fld_37_2 : Has (fldK Tryz.prog 37 2) (2, false, 1) := ⟨by kernel_rfl⟩
instance T.fld_43_0 : Has (fldK Tryz.prog 43 0) (0, false, 1) := ⟨by kernel_rfl⟩
instance T.fld_43_1 : Has (fldK Tryz.prog 43 1) (1, false, 1) := ⟨by kernel_rfl⟩
instance T.fld_43_2 : Has (fldK Tryz.prog 43 2) (2, false, 1) := ⟨by kernel_rfl⟩
instance T.fld_43_3 : Has (fldK Tryz.prog 43 3) (3, false, 1) := ⟨by kernel_rfl⟩
instance T.fld_43_4 : Has (fldK Tryz.prog 43 4) (4, false, 1) := ⟨by kernel_rfl⟩
instance T.pl_100 : Has (plK Tryz.prog 100) [(0, 5)] := ⟨by kernel_rfl⟩
instance T.pl_37 : Has (plK Tryz.prog 37) [(0, 1), (1, 1), (2, 1)] := ⟨by kernel_rfl⟩
instance T.ty_100 : Has (tyK Tryz.prog 100) (true, 5) := ⟨by kernel_rfl⟩
instance T.ty_37 : Has (tyK Tryz.prog 37) (true, 3) := ⟨by kernel_rfl⟩
instance T.ty_38 : Has (tyK Tryz.prog 38) (false, 1) := ⟨by kernel_rfl⟩
instance T.ty_43 : Has (tyK Tryz.prog 43) (true, 5) := ⟨by kernel_rfl⟩
instance T.ty_98 : Has (tyK Tryz.prog 98) (false, 1) := ⟨by kernel_rfl⟩
instance T.und_136 : Has (Tryz.prog.underlying 136) (.slice 98) := ⟨by kernel_rfl⟩
instance T.und_22 : Has (Tryz.prog.underlying 22) (.slice 43) := ⟨by kernel_rfl⟩
instance T.und_33 : Has (Tryz.prog.underlying 33) (.slice 37) := ⟨by kernel_rfl⟩
instance T.und_39 : Has (Tryz.prog.underlying 39) (.map 37 4) := ⟨by kernel_rfl⟩
instance T.und_70 : Has (Tryz.prog.underlying 70) (.slice 3) := ⟨by kernel_rfl⟩
instance T.zero_100 : Has (zeroK Tryz.prog 100) [.string ⟨#[]⟩, .string ⟨#[]⟩, .string ⟨#[]⟩, .int .i64 0, .int .i64 0] := ⟨by kernel_rfl⟩
instance T.zero_37 : Has (zeroK Tryz.prog 37) [.string ⟨#[]⟩, .string ⟨#[]⟩, .int .i64 0] := ⟨by kernel_rfl⟩
instance T.zero_43 : Has (zeroK Tryz.prog 43) [.string ⟨#[]⟩, .string ⟨#[]⟩, .string ⟨#[]⟩, .int .i64 0, .int .i64 0] := ⟨by kernel_rfl⟩
instance T.zero_98 : Has (zeroK Tryz.prog 98) [.nilFunc] := ⟨by kernel_rfl⟩
theorem indexFunc_Int (I : IMap) (v : Value) (l : List Int) (hv : RdS I v l) (f : FuncId) (cs : List Value) (p : Int → Bool) (hp : ∀ x ∈ l, FnV Tryz.prog f ([Value.int .i64 x] ++ cs).toArray I (.bool (p x))) :
    FnV Tryz.prog 91 #[v, .func (.func f) #[] cs.toArray] I (.int .i64 (idxF p l)) := by
 have hv0 := hv
 obtain ⟨A, c0, rfl, hA, hc, hm⟩ := hv
 refine enter Tryz.func91 Tryz.call91 rfl Tryz.ntmps91 rfl (fun w0 => ?_)
 refine go 14 ?_
 refine c_loop (α := Nat) 0 (fun i => I)
  (fun i => [(0, .slice A l.length c0), (1, .func (.func f) #[] cs.toArray), (7, .int .i64 (l.length : Int)), (8, .int .i64 (i : Int))])
  (fun i => [])
  (fun i => i ≤ l.length ∧ ∀ j x, j < i → l[j]? = some x → p x = false)
  (fun i => l.length - i) ⟨Nat.zero_le _, fun j x hj => absurd hj (Nat.not_lt_zero j)⟩ rfl sb rfl ?_
 intro i ⟨hi, hn⟩
 refine go 6 ?_
 refine cb rfl (fun h9 p9 => ?_) (fun h9 p9 => ?_)
 ·have hlt : i < l.length := by omega
  refine go 15 ?_
  obtain ⟨b14, o14, w14, e14, c14, r14⟩ := RdA.at_ hA (i := i) hlt
  obtain rfl := r14
  refine o_v rfl (v_idx he rfl rfl e14 (i) (by omega) hlt) ?_
  refine o_v rfl (v_ldI he rfl (c14 0 _ rfl)) ?_
  refine go 1 ?_
  refine o_callV (hp _ (List.getElem_mem hlt)) rfl rfl ?_
  refine go 2 ?_
  refine cb rfl (fun h16 p16 => ?_) (fun h16 p16 => ?_)
  ·refine go 12 ?_
   refine fin1 rfl rfl ?_
   exact q_v (congrArg (Value.int .i64) (idxF_found hlt p16 hn).symm)
  ·refine go 8 ?_
   exact q_next (i + 1) ⟨by omega, idx_next hn hlt p16⟩ (by omega) rfl sb rfl
 ·refine go 11 ?_
  refine fin1 rfl rfl ?_
  exact q_v (congrArg (Value.int .i64) (idxF_none (fun j x hj => hn j x (by omega))).symm)

theorem containsFunc_Int (I : IMap) (v : Value) (l : List Int) (hv : RdS I v l) (f : FuncId) (cs : List Value) (p : Int → Bool) (hp : ∀ x ∈ l, FnV Tryz.prog f ([Value.int .i64 x] ++ cs).toArray I (.bool (p x))) :
    FnV Tryz.prog 65 #[v, .func (.func f) #[] cs.toArray] I (.bool (l.any p)) := by
 refine enter Tryz.func65 Tryz.call65 rfl Tryz.ntmps65 rfl (fun w0 => ?_)
 refine go 10 ?_
 refine o_callV (indexFunc_Int I v l hv f cs p hp) rfl rfl ?_
 refine go 5 ?_
 refine fin1 rfl rfl ?_
 exact q_v (congrArg Value.bool (idxF_any p l))

theorem indexFunc_Fn1 (I : IMap) (v : Value) (l : List Fn1) (hv : RdS I v l) (f : FuncId) (cs : List Value) (p : Fn1 → Bool) (hp : ∀ x ∈ l, FnV Tryz.prog f ([Fn1.val x] ++ cs).toArray I (.bool (p x))) :
    FnV Tryz.prog 114 #[v, .func (.func f) #[] cs.toArray] I (.int .i64 (idxF p l)) := by
 have hv0 := hv
 obtain ⟨A, c0, rfl, hA, hc, hm⟩ := hv
 refine enter Tryz.func114 Tryz.call114 rfl Tryz.ntmps114 rfl (fun w0 => ?_)
 refine go 14 ?_
 refine c_loop (α := Nat) 0 (fun i => I)
  (fun i => [(0, .slice A l.length c0), (1, .func (.func f) #[] cs.toArray), (7, .int .i64 (l.length : Int)), (8, .int .i64 (i : Int))])
  (fun i => [])
  (fun i => i ≤ l.length ∧ ∀ j x, j < i → l[j]? = some x → p x = false)
  (fun i => l.length - i) ⟨Nat.zero_le _, fun j x hj => absurd hj (Nat.not_lt_zero j)⟩ rfl sb rfl ?_
 intro i ⟨hi, hn⟩
 refine go 6 ?_
 refine cb rfl (fun h9 p9 => ?_) (fun h9 p9 => ?_)
 ·have hlt : i < l.length := by omega
  refine go 15 ?_
  obtain ⟨b14, o14, w14, e14, c14, r14⟩ := RdA.at_ hA (i := i) hlt
  obtain rfl := r14
  refine o_v rfl (v_idx he rfl rfl e14 (i) (by omega) hlt) ?_
  refine o_v rfl (v_ldI he rfl (c14 0 _ rfl)) ?_
  refine go 1 ?_
  refine o_callV (hp _ (List.getElem_mem hlt)) rfl rfl ?_
  refine go 2 ?_
  refine cb rfl (fun h16 p16 => ?_) (fun h16 p16 => ?_)
  ·refine go 12 ?_
   refine fin1 rfl rfl ?_
   exact q_v (congrArg (Value.int .i64) (idxF_found hlt p16 hn).symm)
  ·refine go 8 ?_
   exact q_next (i + 1) ⟨by omega, idx_next hn hlt p16⟩ (by omega) rfl sb rfl
 ·refine go 11 ?_
  refine fin1 rfl rfl ?_
  exact q_v (congrArg (Value.int .i64) (idxF_none (fun j x hj => hn j x (by omega))).symm)

theorem containsFunc_Fn1 (I : IMap) (v : Value) (l : List Fn1) (hv : RdS I v l) (f : FuncId) (cs : List Value) (p : Fn1 → Bool) (hp : ∀ x ∈ l, FnV Tryz.prog f ([Fn1.val x] ++ cs).toArray I (.bool (p x))) :
    FnV Tryz.prog 89 #[v, .func (.func f) #[] cs.toArray] I (.bool (l.any p)) := by
 refine enter Tryz.func89 Tryz.call89 rfl Tryz.ntmps89 rfl (fun w0 => ?_)
 refine go 10 ?_
 refine o_callV (indexFunc_Fn1 I v l hv f cs p hp) rfl rfl ?_
 refine go 5 ?_
 refine fin1 rfl rfl ?_
 exact q_v (congrArg Value.bool (idxF_any p l))

theorem eqS_Due (a b : Due) : eqV Tryz.prog 9 37 (.agg a.cells.toArray) (.agg b.cells.toArray) = some (decide (a = b)) := by
  rw [← Due.eqB_eq]
  kernel_rfl
theorem keyDue : KeyOK Tryz.prog 37 encDue := key_struct (cells := Due.cells) (by kernel_rfl) (fun p q => eqS_Due p q) (fun p => by kernel_rfl) (fun p => by simp [Due.cells, bits_str, bits_int])

theorem duOwn (I : IMap) (x : Evt) (p : ByteArray) (day : Int) (g6 g7 : Nat) (h6 : ICells I g6 0 [.string p]) (h7 : ICells I g7 0 [ci day]) :
    FnV Tryz.prog 61 #[.agg x.cells.toArray, .pointer (some ⟨g6, 0, none⟩), .pointer (some ⟨g7, 0, none⟩)] I (.bool (ownE p day x)) := by
 refine enter Tryz.func61 Tryz.call61 rfl Tryz.ntmps61 rfl (fun w0 => ?_)
 refine go 3 ?_
 refine o_box _ rfl rfl rfl (fun g3 => ?_)
 refine go 7 ?_
 refine o_v rfl (v_ldI he rfl (h6 0 _ rfl)) ?_
 refine go 2 ?_
 refine sxb 9 rfl (fun h9 p9 => ?_) (fun h9 p9 => ?_)
 ·refine go 2 ?_
  refine o_cons (o_yes rfl rfl h9 (o_val rfl (v_ldI he rfl (h7 0 _ rfl)) ?_))
  refine go 6 ?_
  refine fin1 rfl rfl ?_
  exact q_v (congrArg Value.bool (by simp only [ownE, h9, bS]))
 ·refine go 9 ?_
  refine fin1 rfl rfl ?_
  exact q_v (congrArg Value.bool (by simp only [ownE, h9, bS]))

theorem duNote (I : IMap) (x : Evt) (d : Dut) (g4 : Nat) (h4 : ICells I g4 0 d.cells) :
    FnV Tryz.prog 63 #[.agg x.cells.toArray, .pointer (some ⟨g4, 0, none⟩)] I (.bool (decide (x.op = 6) && decide (x.key = d.key))) := by
 refine enter Tryz.func63 Tryz.call63 rfl Tryz.ntmps63 rfl (fun w0 => ?_)
 refine go 3 ?_
 refine o_box _ rfl rfl rfl (fun g2 => ?_)
 refine go 9 ?_
 refine sxb 7 rfl (fun h7 p7 => ?_) (fun h7 p7 => ?_)
 ·refine go 4 ?_
  refine o_cons (o_yes rfl rfl h7 (o_val rfl (v_ldI he rfl (h4 2 _ rfl)) ?_))
  refine go 6 ?_
  refine fin1 rfl rfl ?_
  exact q_v (congrArg Value.bool (by simp only [h7, bS]))
 ·refine go 11 ?_
  refine fin1 rfl rfl ?_
  exact q_v (congrArg Value.bool (by simp only [h7, bS]))

theorem duBegin (I : IMap) (x : Evt) (d : Dut) (g4 : Nat) (h4 : ICells I g4 0 d.cells) :
    FnV Tryz.prog 64 #[.agg x.cells.toArray, .pointer (some ⟨g4, 0, none⟩)] I (.bool (decide (x.op = d.after))) := by
 refine enter Tryz.func64 Tryz.call64 rfl Tryz.ntmps64 rfl (fun w0 => ?_)
 refine go 3 ?_
 refine o_box _ rfl rfl rfl (fun g2 => ?_)
 refine go 9 ?_
 refine o_v rfl (v_ldI he rfl (h4 3 _ rfl)) ?_
 refine go 5 ?_
 refine fin1 rfl rfl ?_
 exact q_v rfl

theorem duMet (I : IMap) (d : Dut) (n b : Int) (g15 : Nat) (h15 : ICells I g15 0 [ci b]) (hb : 0 ≤ b ∧ b ≤ 40000) (hw : 0 ≤ d.within ∧ d.within ≤ 40000) (g4 : Nat) (h4 : ICells I g4 0 d.cells) :
    FnV Tryz.prog 66 #[.int .i64 (n), .pointer (some ⟨g15, 0, none⟩), .pointer (some ⟨g4, 0, none⟩)] I (.bool (decide (n ≥ b) && decide (n ≤ b + d.within))) := by
 refine enter Tryz.func66 Tryz.call66 rfl Tryz.ntmps66 rfl (fun w0 => ?_)
 refine go 8 ?_
 refine o_v rfl (v_ldI he rfl (h15 0 _ rfl)) ?_
 refine go 2 ?_
 refine sxb 8 rfl (fun h8 p8 => ?_) (fun h8 p8 => ?_)
 ·refine go 1 ?_
  refine o_cons (o_yes rfl rfl h8 (o_val rfl (v_ldI he rfl (h15 0 _ rfl)) ?_))
  refine go 2 ?_
  refine o_cons (o_yes rfl rfl h8 (o_val rfl (v_ldI he rfl (h4 4 _ rfl)) ?_))
  refine go 7 ?_
  refine fin1 rfl rfl ?_
  exact q_v (congrArg Value.bool (by simp only [h8, bS]))
 ·refine go 12 ?_
  refine fin1 rfl rfl ?_
  exact q_v (congrArg Value.bool (by simp only [h8, bS]))

theorem duNot (I : IMap) (f : Fn1) (x : Evt) (b : Bool) (hf : FnV Tryz.prog f.k ([Value.agg x.cells.toArray] ++ f.cs).toArray I (.bool b)) (g : Nat) (hg : ICells I g 0 x.cells) :
    FnV Tryz.prog 90 #[.func (.func f.k) #[] f.cs.toArray, .pointer (some ⟨g, 0, none⟩)] I (.bool (!b)) := by
 refine enter Tryz.func90 Tryz.call90 rfl Tryz.ntmps90 rfl (fun w0 => ?_)
 refine go 8 ?_
 refine o_v rfl (v_ldIa he rfl hg rfl) ?_
 refine go 1 ?_
 refine o_callV (hf) rfl rfl ?_
 refine go 5 ?_
 refine fin1 rfl rfl ?_
 exact q_v rfl

theorem duDays (I : IMap) (v : Value) (l : List Evt) (hv : RdS I v l) (hl : l.length ≤ 1000000) (w : Value) (fs : List Fn1) (hw : RdS I w fs) (q : Fn1 → Evt → Bool) (hq : ∀ J, ILe I J → ∀ f ∈ fs, ∀ x : Evt, FnV Tryz.prog f.k ([Value.agg x.cells.toArray] ++ f.cs).toArray J (.bool (q f x))) :
    FnI Tryz.prog 62 #[v, w] I (fun u J => RdS J u (dayOf fs q l)) := by
 have hv0 := hv
 obtain ⟨A, c0, rfl, hA, hc, hm⟩ := hv
 refine enter Tryz.func62 Tryz.call62 rfl Tryz.ntmps62 rfl (fun w0 => ?_)
 refine go 7 ?_
 refine sx_nilrow 3 1 ?_
 refine go 12 ?_
 refine c_loop4 ((0 : Nat)) (I) (_) ([]) (fun i J v5 xs => J)
  (fun i J v5 xs => [(1, w), (5, v5), (8, .slice A l.length c0), (9, .int .i64 ((l.length : Nat) : Int)), (10, .int .i64 ((i : Nat) : Int))])
  (fun i J v5 xs => [.row v5 3 1 (dayOf fs q (l.take i)).length xs])
  (fun i J v5 xs => i ≤ l.length ∧ ILe I J ∧ Flat J xs (dayOf fs q (l.take i)))
  (fun i J v5 xs => l.length - i) ⟨Nat.zero_le _, ILe.refl _, .nil⟩ rfl sb rfl ?_
 intro i J v5 xs ⟨hi, hJ, hF⟩
 have hA := hA.le hJ
 have hw := hw.le hJ
 have hdl := dayOf_len (fs := fs) (q := q) (l := l.take i)
 rw [List.length_take] at hdl
 refine go 6 ?_
 refine cb rfl (fun h11 p11 => ?_) (fun h11 p11 => ?_)
 ·have hlt : i < l.length := by omega
  refine go 6 ?_
  obtain ⟨b12, o12, w12, e12, c12, r12⟩ := RdA.at_ hA (i := i) hlt
  obtain rfl := r12
  refine o_v rfl (v_idx he rfl rfl e12 (i) (by omega) hlt) ?_
  refine o_v rfl (v_ldIa he rfl c12 rfl) ?_
  refine go 1 ?_
  refine o_alloc he rfl (fun g7 => ?_)
  refine go 1 ?_
  refine o_stw _ he rfl rfl rfl rfl rfl rfl ?_
  refine go 5 ?_
  refine o_v rfl (v_makeFunc rfl rfl) ?_
  refine go 1 ?_
  refine sx_pub (fun Ig7 jg7 cg7 => ?_)
  have hw := hw.le jg7
  refine o_callV (containsFunc_Fn1 _ w fs hw 90 [.pointer (some ⟨g7, 0, none⟩)] (fun f => !q f l[i]) (fun f hf => duNot _ f l[i] _ (hq _ (hJ.trans jg7) f hf l[i]) g7 cg7)) rfl rfl ?_
  refine go 3 ?_
  refine cb rfl (fun h17 p17 => ?_) (fun h17 p17 => ?_)
  ·refine go 3 ?_
   refine o_v rfl (v_ldI he rfl (cg7 1 _ rfl)) ?_
   refine go 1 ?_
   refine o_buildSlice he he rfl rfl rfl rfl rfl rfl rfl (fun v21 => ?_)
   refine go 1 ?_
   refine bring1 ?_
   refine o_appendO he he rfl rfl rfl rfl rfl (by omega) (by omega) rfl (fun v22 => ?_)
   refine go 9 ?_
   refine bring1 ?_
   refine sx_drop ?_
   exact q_next4 (i + 1) (_) (_) (_) ⟨by omega, hJ.trans jg7, by rw [dayOf_yes hlt (by rw [← all_nots]; exact h17)]; exact (hF.le jg7).append (.one rfl)⟩ (by omega) rfl sb (by rw [dayOf_yes hlt (by rw [← all_nots]; exact h17), List.length_append]; rfl)
  ·refine go 8 ?_
   exact q_next4 (i + 1) (_) (_) (_) ⟨by omega, hJ.trans jg7, by rw [dayOf_no hlt (by rw [← all_nots]; exact h17)]; exact hF.le jg7⟩ (by omega) rfl sb (by rw [dayOf_no hlt (by rw [← all_nots]; exact h17)])
 ·refine go 12 ?_
  refine fin1 rfl rfl ?_
  have e : i = l.length := (by omega)
  subst e
  rw [List.take_length] at hF ⊢
  refine sx_pubrow (l := dayOf fs q l) rfl rfl hF (fun I9 j9 R9 => ?_)
  exact q_i R9

theorem duValid (I : IMap) (d : Dut) (hs : d.name.size ≤ maxLen ∧ d.kind.size ≤ maxLen ∧ d.key.size ≤ maxLen) :
    FnV Tryz.prog 42 #[.agg d.cells.toArray] I (.bool (validDu d)) := by
 refine enter Tryz.func42 Tryz.call42 rfl Tryz.ntmps42 rfl (fun w0 => ?_)
 refine go 3 ?_
 refine o_box _ rfl rfl rfl (fun g1 => ?_)
 refine go 9 ?_
 refine o_callV (lexName _ d.name hs.1) rfl rfl ?_
 refine go 1 ?_
 refine sxb 7 rfl (fun h7 p7 => ?_) (fun h7 p7 => ?_)
 ·refine go 4 ?_
  refine o_yes rfl rfl h7 (o_callV (lexName _ d.kind hs.2.1) rfl rfl ?_)
  refine go 2 ?_
  refine sxb 13 rfl (fun h13 p13 => ?_) (fun h13 p13 => ?_)
  ·refine go 4 ?_
   refine o_yes rfl rfl h13 (o_callV (lexName _ d.key hs.2.2) rfl rfl ?_)
   refine go 2 ?_
   refine sxb 19 rfl (fun h19 p19 => ?_) (fun h19 p19 => ?_)
   ·refine go 6 ?_
    refine sxb 25 rfl (fun h25 p25 => ?_) (fun h25 p25 => ?_)
    ·refine go 6 ?_
     refine sxb 31 rfl (fun h31 p31 => ?_) (fun h31 p31 => ?_)
     ·refine go 6 ?_
      refine sxb 37 rfl (fun h37 p37 => ?_) (fun h37 p37 => ?_)
      ·refine go 9 ?_
       refine fin1 rfl rfl ?_
       exact q_v (congrArg Value.bool (by simp only [validDu, h7, h13, h19, h25, h31, h37, bS]))
      ·refine go 9 ?_
       refine fin1 rfl rfl ?_
       exact q_v (congrArg Value.bool (by simp only [validDu, h7, h13, h19, h25, h31, h37, bS]))
     ·refine go 15 ?_
      refine fin1 rfl rfl ?_
      exact q_v (congrArg Value.bool (by simp only [validDu, h7, h13, h19, h25, h31, bS]))
    ·refine go 21 ?_
     refine fin1 rfl rfl ?_
     exact q_v (congrArg Value.bool (by simp only [validDu, h7, h13, h19, h25, bS]))
   ·refine go 27 ?_
    refine fin1 rfl rfl ?_
    exact q_v (congrArg Value.bool (by simp only [validDu, h7, h13, h19, bS]))
  ·refine go 33 ?_
   refine fin1 rfl rfl ?_
   exact q_v (congrArg Value.bool (by simp only [validDu, h7, h13, bS]))
 ·refine go 39 ?_
  refine fin1 rfl rfl ?_
  exact q_v (congrArg Value.bool (by simp only [validDu, h7, bS]))

theorem cmpOr (I : IMap) (v : Value) (l : List Int) (hv : RdS I v l) :
    FnV Tryz.prog 34 #[v] I (.int .i64 (orI l)) := by
 have hv0 := hv
 obtain ⟨A, c0, rfl, hA, hc, hm⟩ := hv
 refine enter Tryz.func34 Tryz.call34 rfl Tryz.ntmps34 rfl (fun w0 => ?_)
 refine go 19 ?_
 refine c_loop (α := Nat) 0 (fun i => I)
  (fun i => [(3, .int .i64 (0)), (6, .slice A l.length c0), (7, .int .i64 ((l.length : Nat) : Int)), (8, .int .i64 ((i : Nat) : Int))])
  (fun i => [])
  (fun i => i ≤ l.length ∧ orI l = orI (l.drop i))
  (fun i => l.length - i) ⟨Nat.zero_le _, rfl⟩ rfl sb rfl ?_
 intro i ⟨hi, hn⟩
 refine go 6 ?_
 refine cb rfl (fun h9 p9 => ?_) (fun h9 p9 => ?_)
 ·have hlt : i < l.length := by omega
  refine go 6 ?_
  obtain ⟨b10, o10, w10, e10, c10, r10⟩ := RdA.at_ hA (i := i) (by omega)
  obtain rfl := r10
  refine o_v rfl (v_idx he rfl rfl e10 (i) (by omega) (by omega)) ?_
  refine o_v rfl (v_ldI he rfl (c10 0 _ rfl)) ?_
  refine go 10 ?_
  refine cb rfl (fun h14 p14 => ?_) (fun h14 p14 => ?_)
  ·refine go 12 ?_
   refine fin1 rfl rfl ?_
   exact q_v (congrArg (Value.int .i64) (by rw [hn, or_hit hlt p14]))
  ·refine go 8 ?_
   exact q_next (i + 1) ⟨by omega, by rw [hn, or_skip hlt p14]⟩ (by omega) rfl sb rfl
 ·refine go 12 ?_
  refine fin1 rfl rfl ?_
  exact q_v (congrArg (Value.int .i64) (by rw [hn, List.drop_eq_nil_of_le (by omega)]; rfl))

theorem strCompare (I : IMap) (a b : ByteArray) : FnV Tryz.prog 36 #[.string a, .string b] I (.int .i64 (cmpR a b)) := FnV.of_calls (fun w => Tryz.call36 _ w) (fun w => Any.strings_Compare Tryz.layC a b w) I

theorem duCmp (I : IMap) (a b : Due) :
    FnV Tryz.prog 33 #[.agg a.cells.toArray, .agg b.cells.toArray] I (.int .i64 (cfDue a b)) := by
 refine enter Tryz.func33 Tryz.call33 rfl Tryz.ntmps33 rfl (fun w0 => ?_)
 refine go 3 ?_
 refine o_box _ rfl rfl rfl (fun g2 => ?_)
 refine go 1 ?_
 refine o_box _ rfl rfl rfl (fun g3 => ?_)
 refine go 4 ?_
 refine sx_knowI (fun hE1 hf1 => ?_)
 refine d_startH T.mixed ?_
 refine d_tv 0 rfl rfl (by kernel_rfl) rfl (.refl _) rfl (v_fieldAddr he rfl) ?_
 refine d_tv 1 rfl rfl (by kernel_rfl) rfl (.refl _) rfl (v_ld m1 he rfl rfl) ?_
 refine d_tv 2 rfl rfl (by kernel_rfl) rfl (.refl _) rfl (v_fieldAddr he rfl) ?_
 refine d_tv 3 rfl rfl (by kernel_rfl) rfl (.refl _) rfl (v_ld m0 he rfl rfl) ?_
 refine d_tv 5 rfl rfl (by kernel_rfl) rfl (.refl _) rfl (v_fieldAddr he rfl) ?_
 refine d_tv 6 rfl rfl (by kernel_rfl) rfl (.refl _) rfl (v_ld m1 he rfl rfl) ?_
 refine d_tv 7 rfl rfl (by kernel_rfl) rfl (.refl _) rfl (v_fieldAddr he rfl) ?_
 refine d_tv 8 rfl rfl (by kernel_rfl) rfl (.refl _) rfl (v_ld m0 he rfl rfl) ?_
 refine d_one 4 (by kernel_rfl) rfl ?_
 refine o_callV (compare_int _ a.day b.day) rfl rfl ?_
 refine d_on (fun _ m => m.keeps (.refl _)) ?_
 refine d_one 9 (by kernel_rfl) rfl ?_
 refine o_callV (strCompare _ a.rule b.rule) rfl rfl ?_
 refine d_on (fun _ m => m.keeps (.refl _)) ?_
 refine d_one 10 (by kernel_rfl) rfl ?_
 refine o_buildSlice he he rfl rfl rfl rfl rfl rfl rfl (fun v15 => ?_)
 refine sx_pubrow (l := [cmpI a.day b.day, cmpR a.rule b.rule]) rfl rfl ((intCs_flat [cmpI a.day b.day, cmpR a.rule b.rule])) (fun I15 j15 R15 => ?_)
 refine d_on (fun _ m => m.keepsI (.refl _) (j15) hE1 hf1) ?_
 refine d_one 11 (by kernel_rfl) rfl ?_
 refine o_callV (cmpOr _ _ _ R15) rfl rfl ?_
 refine d_on (fun _ m => m.keepsI (.refl _) (j15) hE1 hf1) ?_
 refine d_t 12 rfl rfl (by kernel_rfl) rfl (fun _ m => m.keepsI (.refl _) (j15) hE1 hf1) (y_v rfl (v_assign rfl)) ?_
 refine d_done (by kernel_rfl) ?_
 refine go 2 ?_
 refine fin1 rfl rfl ?_
 exact q_vI rfl

theorem sortRowS (I : IMap) (v : Value) (l : List ByteArray) (xs : List Value) (hF : Flat I xs l) (hl : l.length ≤ 1000000) :
    FnX Tryz.prog 45 #[v] I [.row v 9 1 l.length xs] (fun u r => u = .tuple #[] ∧ ∃ m ys, SrtP l m ∧ Flat I ys m ∧ r = .row v 9 1 l.length ys) :=
  sort_str (fun args w => Tryz.call45 args w) (fun blk off cap ss w h1 h2 h3 => Any.slices_Sort_string Tryz.layS blk off cap ss w h1 h2 h3) (sortNil I) hF hl
theorem sortRowD (I : IMap) (v : Value) (l : List Due) (hl : l.length ≤ 1000000) :
    FnX Tryz.prog 32 #[v, .func (.func 33) #[] #[]] I [.row v 37 3 l.length (l.flatMap Due.cells)] (fun u r => u = .tuple #[] ∧ ∃ m, SrtK cfDue l m ∧ r = .row v 37 3 l.length (m.flatMap Due.cells)) :=
  sort_cmp (k := 3) (cells := Due.cells) (cf := cfDue) (fun args w => Tryz.call32 args w) (fun args w => Tryz.call33 args w)
    (fun blk off cap d w hc hH hb hs => AnyQ.slices_SortFunc Tryz.layD 3 Tryz.isAgg37 Tryz.sizeOf37 Due.cells (fun _ => rfl) (fun x v hv => by simp [Due.cells] at hv; rcases hv with rfl | rfl | rfl <;> rfl) cfDue due_swo 33 #[] blk off cap d w (fun args w => Tryz.call33 args w) hc hH hb hs)
    (fun w => AnyF.slices_SortFunc_none { Tryz.layD with } none 0 _ w) (fun x y => duCmp I00 x y) (fun _ => rfl) hl

theorem duConds {I J : IMap} (hJ : ILe I J) {d : Dut} {p : ByteArray} {day : Int} {g4 g6 g7 : Nat} (c4 : ICells I g4 0 d.cells) (c6 : ICells I g6 0 [.string p]) (c7 : ICells I g7 0 [ci day]) :
    ∀ f ∈ [(⟨61, [.pointer (some ⟨g6, 0, none⟩), .pointer (some ⟨g7, 0, none⟩)]⟩ : Fn1), (⟨63, [.pointer (some ⟨g4, 0, none⟩)]⟩ : Fn1), (⟨64, [.pointer (some ⟨g4, 0, none⟩)]⟩ : Fn1)], ∀ x : Evt, FnV Tryz.prog f.k ([Value.agg x.cells.toArray] ++ f.cs).toArray J (.bool ((condF d p day 61 63) f x)) := by
  intro f hf x
  rcases List.mem_cons.1 hf with rfl | hf
  · exact duOwn J x p day g6 g7 (c6.le hJ) (c7.le hJ)
  · rcases List.mem_cons.1 hf with rfl | hf
    · exact duNote J x d g4 (c4.le hJ)
    · rw [List.mem_singleton.1 hf]
      exact duBegin J x d g4 (c4.le hJ)

theorem duLast (I : IMap) (d : Dut) (v : Value) (l : List Evt) (hv : RdS I v l) (hl : l.length ≤ 1000000) (p : ByteArray) (day : Int) (hw : 0 ≤ d.within ∧ d.within ≤ 40000) (hd : ∀ e ∈ l, e.part = p → e.day ≤ day → 0 ≤ e.day ∧ e.day ≤ 40000) :
    FnV Tryz.prog 43 #[.agg d.cells.toArray, v, .string p, .int .i64 (day)] I (.tuple #[.int .i64 ((leastN (pendD d l p day)).getD 0), .bool (leastN (pendD d l p day)).isSome]) := by
 refine enter Tryz.func43 Tryz.call43 rfl Tryz.ntmps43 rfl (fun w0 => ?_)
 refine go 3 ?_
 refine o_box _ rfl rfl rfl (fun g4 => ?_)
 refine go 1 ?_
 refine o_box _ rfl rfl rfl (fun g6 => ?_)
 refine go 1 ?_
 refine o_box _ rfl rfl rfl (fun g7 => ?_)
 refine go 6 ?_
 refine o_v rfl (v_makeFunc rfl rfl) ?_
 refine go 7 ?_
 refine o_v rfl (v_makeFunc rfl rfl) ?_
 refine go 1 ?_
 refine o_buildSlice he he rfl rfl rfl rfl rfl rfl rfl (fun v22 => ?_)
 refine sx_pubrow (l := [(⟨61, [.pointer (some ⟨g6, 0, none⟩), .pointer (some ⟨g7, 0, none⟩)]⟩ : Fn1), (⟨63, [.pointer (some ⟨g4, 0, none⟩)]⟩ : Fn1)]) rfl rfl (.cons rfl (.one rfl)) (fun I22 j22 R22 => ?_)
 have hv := hv.le j22
 refine go 1 ?_
 refine bring2 ?_
 refine sx_pub (fun Ig4 jg4 cg4 => ?_)
 try have hv := hv.le jg4
 try have R22 := R22.le jg4
 try have cg4 := cg4.le jg4
 try have cg6 := cg6.le jg4
 try have cg7 := cg7.le jg4
 refine bring1 ?_
 refine sx_pub (fun Ig6 jg6 cg6 => ?_)
 try have hv := hv.le jg6
 try have R22 := R22.le jg6
 try have cg4 := cg4.le jg6
 try have cg6 := cg6.le jg6
 try have cg7 := cg7.le jg6
 refine sx_pub (fun Ig7 jg7 cg7 => ?_)
 try have hv := hv.le jg7
 try have R22 := R22.le jg7
 try have cg4 := cg4.le jg7
 try have cg6 := cg6.le jg7
 try have cg7 := cg7.le jg7
 refine o_call (duDays _ v l hv hl _ [(⟨61, [.pointer (some ⟨g6, 0, none⟩), .pointer (some ⟨g7, 0, none⟩)]⟩ : Fn1), (⟨63, [.pointer (some ⟨g4, 0, none⟩)]⟩ : Fn1)] R22 (condF d p day 61 63) (fun J hJ f hf x => duConds hJ cg4 cg6 cg7 f (by revert hf; simp; rintro (h | h) <;> simp [h]) x)) rfl rfl (fun v23 I23 j23 q23 => ?_)
 try have hv := hv.le j23
 try have R22 := R22.le j23
 try have cg4 := cg4.le j23
 try have cg6 := cg6.le j23
 try have cg7 := cg7.le j23
 rw [dayOf_two (by decide)] at q23
 refine go 14 ?_
 refine o_v rfl (v_makeFunc rfl rfl) ?_
 refine go 1 ?_
 refine o_buildSlice he he rfl rfl rfl rfl rfl rfl rfl (fun v27 => ?_)
 refine sx_pubrow (l := [(⟨61, [.pointer (some ⟨g6, 0, none⟩), .pointer (some ⟨g7, 0, none⟩)]⟩ : Fn1), (⟨64, [.pointer (some ⟨g4, 0, none⟩)]⟩ : Fn1)]) rfl rfl (.cons rfl (.one rfl)) (fun I27 j27 R27 => ?_)
 have hv := hv.le j27
 have q23 := q23.le j27
 have cg4 := cg4.le j27
 have cg6 := cg6.le j27
 have cg7 := cg7.le j27
 refine go 1 ?_
 refine o_call (duDays _ v l hv hl _ [(⟨61, [.pointer (some ⟨g6, 0, none⟩), .pointer (some ⟨g7, 0, none⟩)]⟩ : Fn1), (⟨64, [.pointer (some ⟨g4, 0, none⟩)]⟩ : Fn1)] R27 (condF d p day 61 63) (fun J hJ f hf x => duConds hJ cg4 cg6 cg7 f (by revert hf; simp; rintro (h | h) <;> simp [h]) x)) rfl rfl (fun v28 I28 j28 q28 => ?_)
 have q23 := q23.le j28
 have cg4 := cg4.le j28
 rw [dayOf_beg (by decide) (by decide)] at q28
 obtain ⟨A28, c28, rfl, hA28, _, _⟩ := q28
 refine go 5 ?_
 refine c_loop4 ((0 : Nat)) ((0 : Int)) (false) (I28) (fun i m fd J => J)
  (fun i m fd J => [(4, .pointer (some ⟨g4, 0, none⟩)), (11, v23), (12, .int .i64 (m)), (13, .bool fd), (28, .slice A28 (begL d l p day).length c28), (29, .int .i64 (((begL d l p day).length : Nat) : Int)), (30, .int .i64 ((i : Nat) : Int))])
  (fun i m fd J => [])
  (fun i m fd J => i ≤ (begL d l p day).length ∧ ILe I28 J ∧ LeastIs (pendTo d l p day i) m fd)
  (fun i m fd J => (begL d l p day).length - i) ⟨Nat.zero_le _, ILe.refl _, LeastIs.nil⟩ rfl sb rfl ?_
 intro i m fd J ⟨hi, hJ, hL⟩
 have hA28 := hA28.le hJ
 have cg4 := cg4.le hJ
 have q23 := q23.le hJ
 refine go 6 ?_
 refine cb rfl (fun h31 p31 => ?_) (fun h31 p31 => ?_)
 ·have hlt : i < (begL d l p day).length := by omega
  obtain ⟨e0, hee, hep, hed, heb⟩ := beg_day hlt
  have hbd := hd e0 hee hep hed
  rw [heb] at hbd
  refine go 6 ?_
  obtain ⟨b32, o32, w32, e32, c32, r32⟩ := RdA.at_ hA28 (i := i) (by omega)
  obtain rfl := r32
  refine o_v rfl (v_idx he rfl rfl e32 (i) (by omega) (by omega)) ?_
  refine o_v rfl (v_ldI he rfl (c32 0 _ rfl)) ?_
  refine go 1 ?_
  refine o_alloc he rfl (fun g15 => ?_)
  refine go 1 ?_
  refine o_stw _ he rfl rfl rfl rfl rfl rfl ?_
  refine go 5 ?_
  refine o_v rfl (v_makeFunc rfl rfl) ?_
  refine go 1 ?_
  refine sx_pub (fun Ig15 jg15 cg15 => ?_)
  have q23 := q23.le jg15
  have hA28 := hA28.le jg15
  have cg4 := cg4.le jg15
  refine o_callV (containsFunc_Int _ v23 (noteL d l p day) q23 66 [.pointer (some ⟨g15, 0, none⟩), .pointer (some ⟨g4, 0, none⟩)] (fun n => decide (n ≥ (begL d l p day)[i]) && decide (n ≤ (begL d l p day)[i] + d.within)) (fun n hn => duMet _ d n _ g15 cg15 hbd hw g4 cg4)) rfl rfl ?_
  refine go 5 ?_
  refine o_v rfl (v_ldI he rfl (cg15 0 _ rfl)) ?_
  refine go 2 ?_
  refine o_v rfl (v_ldI he rfl (cg4 4 _ rfl)) ?_
  refine go 9 ?_
  refine sxb 44 rfl (fun h44 p44 => ?_) (fun h44 p44 => ?_)
  ·refine go 3 ?_
   refine sxb 47 rfl (fun h47 p47 => ?_) (fun h47 p47 => ?_)
   ·refine go 7 ?_
    refine c_true rfl ?_
    refine go 12 ?_
    exact q_next4 (i + 1) ((begL d l p day)[i] + d.within) (true) (_) ⟨by omega, hJ.trans jg15, by rw [pendTo_new hlt (by simpa [metN] using h44)]; exact hL.less (.inl (by simpa using h47))⟩ (by omega) rfl sb rfl
   ·refine go 7 ?_
    refine cb rfl (fun h52 p52 => ?_) (fun h52 p52 => ?_)
    ·refine go 12 ?_
     exact q_next4 (i + 1) ((begL d l p day)[i] + d.within) (true) (_) ⟨by omega, hJ.trans jg15, by rw [pendTo_new hlt (by simpa [metN] using h44)]; exact hL.less (.inr p52)⟩ (by omega) rfl sb rfl
    ·refine go 8 ?_
     exact q_next4 (i + 1) (m) (fd) (_) ⟨by omega, hJ.trans jg15, by rw [pendTo_new hlt (by simpa [metN] using h44)]; exact hL.more2 (by simpa using h47) p52⟩ (by omega) rfl sb rfl
  ·refine go 10 ?_
   refine c_false rfl ?_
   refine go 8 ?_
   exact q_next4 (i + 1) (m) (fd) (_) ⟨by omega, hJ.trans jg15, by rw [pendTo_met hlt (by simpa [metN] using h44)]; exact hL⟩ (by omega) rfl sb rfl
 ·refine go 14 ?_
  refine fin2 rfl rfl rfl ?_
  have e : i = (begL d l p day).length := (by omega)
  subst e
  rw [pendTo_all] at hL
  exact q_vI (by rw [← hL.val.1, ← hL.val.2])

theorem flFind (I : IMap) (v : Value) (l : List Part) (hv : RdS I v l) (s : ByteArray) :
    FnE Tryz.prog 39 #[.agg #[v], .string s] I (PartIs I (findP l s)) := by
 have hv0 := hv
 obtain ⟨A, c0, rfl, hA, hc, hm⟩ := hv
 refine enter Tryz.func39 Tryz.call39 rfl Tryz.ntmps39 rfl (fun w0 => ?_)
 refine go 3 ?_
 refine o_box _ rfl rfl rfl (fun g2 => ?_)
 refine go 1 ?_
 refine o_alloc he rfl (fun g4 => ?_)
 refine go 13 ?_
 refine bring1 ?_
 refine sx_drop ?_
 refine c_loop (α := Nat) 0 (fun i => I)
  (fun i => [(1, .string s), (4, .pointer (some ⟨g4, 0, none⟩)), (9, .slice A l.length c0), (10, .int .i64 (l.length : Int)), (11, .int .i64 ((i : Nat) : Int))])
  (fun i => [.blk g4 89 [.string ⟨#[]⟩, .string ⟨#[]⟩, .string ⟨#[]⟩, .string ⟨#[]⟩, .int .i64 0, .int .i64 0, .bool false, .slice none 0 0, .int .i64 0, .int .i64 0, .int .i64 0, .int .i64 0, .int .i64 0, .int .i64 0]])
  (fun i => i ≤ l.length ∧ findP (l.drop i) s = findP l s)
  (fun i => l.length - i) ⟨Nat.zero_le _, rfl⟩ rfl sb rfl ?_
 intro i ⟨hi, hn⟩
 refine go 6 ?_
 refine cb rfl (fun h12 p12 => ?_) (fun h12 p12 => ?_)
 ·have hlt : i < l.length := by omega
  refine go 6 ?_
  obtain ⟨b13, o13, w13, e13, c13, r13⟩ := RdA.at_ hA (i := i) hlt
  obtain ⟨q13, rfl, B13, d13, rfl, hB13, hd13, hm13⟩ := r13
  refine o_v rfl (v_idx he rfl rfl e13 (i) (by omega) hlt) ?_
  refine o_v rfl (v_ldIa he rfl c13 rfl) ?_
  refine go 1 ?_
  refine o_alloc he rfl (fun g7 => ?_)
  refine go 1 ?_
  refine o_stw _ he rfl rfl rfl rfl rfl rfl ?_
  refine go 10 ?_
  refine cb rfl (fun h18 p18 => ?_) (fun h18 p18 => ?_)
  ·refine go 4 ?_
   refine bring1 ?_
   refine o_stw _ he rfl rfl rfl rfl rfl rfl ?_
   refine go 9 ?_
   refine fin2 rfl ⟨_, _, _, rfl, m0, .inr ⟨_, he, rfl, rfl⟩⟩ rfl ?_
   exact q_e (PartIs.of (findD_hit hlt hn p18) ⟨_, rfl, B13, d13, rfl, hB13, hd13, hm13⟩)
  ·refine go 8 ?_
   refine sx_drop ?_
   exact q_next (i + 1) ⟨by omega, findD_step hlt hn p18⟩ (by omega) rfl sb rfl
 ·refine go 8 ?_
  refine o_val rfl (v_build (pl := [(0, 1), (1, 1), (2, 1), (3, 1), (4, 1), (5, 1), (6, 1), (7, 1), (8, 6)]) he he rfl rfl) ?_
  refine go 1 ?_
  refine o_stw _ he rfl rfl rfl rfl rfl rfl ?_
  refine go 4 ?_
  refine fin2 rfl ⟨_, _, _, rfl, m0, .inr ⟨_, he, rfl, rfl⟩⟩ rfl ?_
  exact q_e (PartIs.none (findD_end (by omega) hn))

theorem duPending (I : IMap) (vd : Value) (ds : List Dut) (hds : RdS I vd ds) (hdl : ds.length ≤ 1000000) (hsd : ∀ d ∈ ds, SmD d) (vc : Value) (c : List Kind) (hvc : RdS I vc c) (hsc : SmC c) (v : Value) (l : List Evt) (hv : RdS I v l) (hl : l.length ≤ 1000000) (hse : ∀ e ∈ l, SmE e) (p : ByteArray) (day : Int) :
    FnH Tryz.prog 26 #[vd, .agg #[vc], v, .string p, .int .i64 (day)] I [] (fun u J H2 => ∃ r kvs, u = .map (some r) ∧ H2 = [.mp r (emap encDue kvs)] ∧ KeysD kvs (pendF ds c l p day)) := by
 refine enter Tryz.func26 Tryz.call26 rfl Tryz.ntmps26 rfl (fun w0 => ?_)
 refine go 3 ?_
 refine o_box _ rfl rfl rfl (fun g6 => ?_)
 refine go 6 ?_
 refine o_map0 (Value.string) he rfl (fun r22 => ?_)
 refine go 9 ?_
 refine o_call (cAt _ vc c hvc hsc v l hv hl hse day) rfl rfl (fun v27 I27 j27 q27 => ?_)
 have hv := hv.le j27
 have hds := hds.le j27
 obtain ⟨wb, rfl, hwb⟩ := q27
 refine go 5 ?_
 refine o_alloc he rfl (fun g12 => ?_)
 refine go 1 ?_
 refine o_stw _ he rfl rfl rfl rfl rfl (by simp [RdS.one hwb]) ?_
 refine go 9 ?_
 refine o_callE (flFind _ _ _ hwb p) rfl rfl (fun v34 q34 => ?_)
 obtain ⟨vs34, rfl, s34, rfl, hs34⟩ := q34
 refine go 4 ?_
 refine o_alloc he rfl (fun g15 => ?_)
 refine go 1 ?_
 refine o_stw _ he rfl rfl rfl rfl rfl (Enc.one (α := Part) (x := ((findP (atF11 c l day).1 p).getD zPart)) ⟨s34, rfl, hs34⟩) ?_
 refine go 5 ?_
 refine c_cut (I' := I27) (L' := [(0, vd), (2, v), (3, .string p), (4, .int .i64 (day)), (11, .map (some r22)), (15, .pointer (some ⟨g15, 0, none⟩)), (46, .bool ((!decide ((atF11 c l day).2.2 = 0) || !(findP (atF11 c l day).1 p).isSome) || ((findP (atF11 c l day).1 p).getD zPart).scrapped))]) (H' := [.blk g15 89 (((findP (atF11 c l day).1 p).getD zPart).cells s34), .mp r22 (emap encDue [])]) ?_ ?_
 ·refine go 4 ?_
  refine sxb 39 rfl (fun h39 p39 => ?_) (fun h39 p39 => ?_)
  ·refine go 9 ?_
   refine bring1 ?_
   refine sx_drop ?_
   refine bring2 ?_
   refine sx_drop ?_
   exact q_cut ⟨rfl, rfl, rfl, rfl, rfl, rfl, (congrArg (fun b => some (Value.bool b)) (by simp only [h39, bS])), trivial⟩ rfl rfl
  ·refine go 4 ?_
   refine sxb 43 rfl (fun h43 p43 => ?_) (fun h43 p43 => ?_)
   ·refine go 5 ?_
    refine bring1 ?_
    refine sx_drop ?_
    refine bring2 ?_
    refine sx_drop ?_
    exact q_cut ⟨rfl, rfl, rfl, rfl, rfl, rfl, (congrArg (fun b => some (Value.bool b)) (by simp only [h39, h43, bS])), trivial⟩ rfl rfl
   ·refine go 5 ?_
    refine bring1 ?_
    refine sx_drop ?_
    refine bring2 ?_
    refine sx_drop ?_
    exact q_cut ⟨rfl, rfl, rfl, rfl, rfl, rfl, (congrArg (fun b => some (Value.bool b)) (by simp only [h39, h43, bS])), trivial⟩ rfl rfl
 ·refine cb rfl (fun h46 p46 => ?_) (fun h46 p46 => ?_)
  ·refine go 8 ?_
   refine fin1 rfl rfl ?_
   refine sx_drop ?_
   exact q_post (fun _ m => m) ⟨_, [], rfl, rfl, by rw [live_no h46]; exact KeysD.nil⟩
  ·have hlv := live_yes h46
   have hok := (live_ok hlv).1
   have hda : ∀ e ∈ l, e.part = p → e.day ≤ day → 0 ≤ e.day ∧ e.day ≤ 40000 := fun e h1 _ h2 => at_days hok h1 h2
   obtain ⟨B, c1, rfl, hB, hcb, hmb⟩ := hds
   refine go 11 ?_
   refine bring1 ?_
   refine c_loop2 ((0 : Nat)) ([]) (fun i kvs => I27)
    (fun i kvs => [(2, v), (3, .string p), (4, .int .i64 (day)), (11, .map (some r22)), (15, .pointer (some ⟨g15, 0, none⟩)), (48, .slice B ds.length c1), (49, .int .i64 ((ds.length : Nat) : Int)), (50, .int .i64 ((i : Nat) : Int))])
    (fun i kvs => [.mp r22 (emap encDue kvs), .blk g15 89 (((findP (atF11 c l day).1 p).getD zPart).cells s34)])
    (fun i kvs => i ≤ ds.length ∧ KeysD kvs ((ds.take i).filterMap (dueOf ((findP (atF11 c l day).1 p).getD zPart).kind l p day)))
    (fun i kvs => ds.length - i) ⟨Nat.zero_le _, KeysD.nil⟩ rfl sb rfl ?_
   intro i kvs ⟨hi, hK⟩
   refine go 6 ?_
   refine cb rfl (fun h51 p51 => ?_) (fun h51 p51 => ?_)
   ·have hlt : i < ds.length := by omega
    refine go 6 ?_
    obtain ⟨b52, o52, w52, e52, c52, r52⟩ := RdA.at_ hB (i := i) hlt
    obtain rfl := r52
    refine o_v rfl (v_idx he rfl rfl e52 (i) (by omega) hlt) ?_
    refine o_v rfl (v_ldIa he rfl c52 rfl) ?_
    refine go 1 ?_
    refine o_alloc he rfl (fun g18 => ?_)
    refine go 1 ?_
    refine o_stw _ he rfl rfl rfl rfl rfl rfl ?_
    refine go 6 ?_
    refine o_val rfl (v_build (pl := [(0, 5)]) he he rfl rfl) ?_
    refine go 1 ?_
    refine o_alloc he rfl (fun g19 => ?_)
    refine go 1 ?_
    refine o_stw _ he rfl rfl rfl rfl rfl rfl ?_
    refine go 7 ?_
    refine o_callV (duValid _ ds[i] (hsd _ (List.getElem_mem hlt))) rfl rfl ?_
    refine go 2 ?_
    refine sxb 59 rfl (fun h59 p59 => ?_) (fun h59 p59 => ?_)
    ·refine go 9 ?_
     refine c_true rfl ?_
     refine go 9 ?_
     refine sx_drop ?_
     refine sx_drop ?_
     exact q_next2 (i + 1) (kvs) ⟨by omega, hK.none hlt (dueOf_bad (by simpa using h59))⟩ (by omega) rfl sb rfl
    ·refine go 9 ?_
     refine cb rfl (fun h66 p66 => ?_) (fun h66 p66 => ?_)
     ·refine go 9 ?_
      refine sx_drop ?_
      refine sx_drop ?_
      exact q_next2 (i + 1) (kvs) ⟨by omega, hK.none hlt (dueOf_kind (by simpa using h66))⟩ (by omega) rfl sb rfl
     ·have hvd : validDu ds[i] = true := by simpa using h59
      have hkd : ds[i].kind = ((findP (atF11 c l day).1 p).getD zPart).kind := by simpa using h66
      refine go 9 ?_
      refine o_callV (duLast _ ds[i] v l hv hl p day (valid_within hvd) hda) rfl rfl ?_
      refine go 12 ?_
      refine cb rfl (fun h75 p75 => ?_) (fun h75 p75 => ?_)
      ·refine go 8 ?_
       refine o_val rfl (v_build (pl := [(0, 1), (1, 1), (2, 1)]) he he rfl rfl) ?_
       refine go 1 ?_
       refine bring2 ?_
       refine o_mapPut (mput kvs (⟨p, ds[i].name, (leastN (pendD ds[i] l p day)).getD 0⟩ : Due) (.bool true)) (keyDue) he ((⟨p, ds[i].name, (leastN (pendD ds[i] l p day)).getD 0⟩ : Due)) rfl rfl rfl (rfl) ?_
       refine go 8 ?_
       refine bring1 ?_
       refine sx_drop ?_
       refine bring1 ?_
       refine sx_drop ?_
       exact q_next2 (i + 1) (mput kvs (⟨p, ds[i].name, (leastN (pendD ds[i] l p day)).getD 0⟩ : Due) (.bool true)) ⟨by omega, hK.some hlt (dueOf_yes hvd hkd h75)⟩ (by omega) rfl sb rfl
      ·refine go 8 ?_
       refine sx_drop ?_
       refine sx_drop ?_
       exact q_next2 (i + 1) (kvs) ⟨by omega, hK.none hlt (dueOf_no h75)⟩ (by omega) rfl sb rfl
   ·refine go 12 ?_
    refine fin1 rfl rfl ?_
    refine bring1 ?_
    refine sx_drop ?_
    have e2 : i = ds.length := (by omega)
    subst e2
    rw [List.take_length] at hK
    exact q_post (fun _ m => m) ⟨_, kvs, rfl, rfl, by rw [pendF_live hlv]; exact hK⟩

theorem duOpen (I : IMap) (vd : Value) (ds : List Dut) (hds : RdS I vd ds) (hdl : ds.length ≤ 1000000) (hsd : ∀ d ∈ ds, SmD d) (vc : Value) (c : List Kind) (hvc : RdS I vc c) (hsc : SmC c) (v : Value) (l : List Evt) (hv : RdS I v l) (hl : l.length ≤ 1000000) (hse : ∀ e ∈ l, SmE e) (p : ByteArray) (day : Int) :
    FnI Tryz.prog 16 #[vd, .agg #[vc], v, .string p, .int .i64 (day)] I (fun u J => RdS J u (openD ds c l p day)) := by
 refine enter Tryz.func16 Tryz.call16 rfl Tryz.ntmps16 rfl (fun w0 => ?_)
 refine go 3 ?_
 refine o_box _ rfl rfl rfl (fun g6 => ?_)
 refine go 5 ?_
 refine sx_nilrow 37 3 ?_
 refine go 12 ?_
 refine o_callH0 (duPending _ vd ds hds hdl hsd vc c hvc hsc v l hv hl hse p day) rfl rfl (fun u18 I18 H18 j18 q18 => ?_)
 obtain ⟨r18, kvs, rfl, rfl, hK⟩ := q18
 have hkl := Nat.le_trans hK.len (pendF_len ds c l p day)
 refine sx_app1' ?_
 refine sx_openmap (fun S0 hO0 hT0 hS0 => ?_)
 refine go 1 ?_
 refine o_range hS0 he rfl rfl (fun i19 => ?_)
 refine go 3 ?_
 refine bring3 ?_
 refine sx_drop ?_
 refine c_loop4 (S0) (kvs) ([]) (_) (fun S todo done v11 => I18)
  (fun S todo done v11 => [(4, .int .i64 (day)), (11, v11), (19, .pointer (some ⟨i19, 0, none⟩))])
  (fun S todo done v11 => [.any i19 (S.it r18), .any r18 S.mp, .row v11 37 3 (opL day done).length ((opL day done).flatMap Due.cells)])
  (fun S todo done v11 => S.Ok encDue kvs ∧ S.Todo encDue todo ∧ (done ++ todo).Perm kvs)
  (fun S todo done v11 => todo.length) ⟨hO0, hT0, .refl _⟩ rfl sb rfl ?_
 intro S todo done v11 ⟨hO, hT, hP⟩
 have hdl2 := hP.length_eq
 rw [List.length_append] at hdl2
 have hol := opL_len day done
 refine go 3 ?_
 refine bring1 ?_
 refine bring1 ?_
 refine o_next hO hT rfl rfl (fun q20 S20 t20 hst => ?_)
 refine o_v rfl (v_extract rfl (nextA_0 _ _)) ?_
 refine go 3 ?_
 refine cb rfl (fun h21 p21 => ?_) (fun h21 p21 => ?_)
 ·obtain ⟨e2, a, b, htd, hO1, hT1, hA1, rfl, rfl⟩ := hst.some h21
  refine go 5 ?_
  refine o_v rfl (v_entry m0 m1 hO1 hA1 rfl) ?_
  refine o_v rfl (OV.cast (u := .agg e2.1.cells.toArray) (v_extract rfl rfl) rfl) ?_
  refine go 1 ?_
  refine o_alloc he rfl (fun g12 => ?_)
  refine go 1 ?_
  refine o_stw _ he rfl rfl rfl rfl rfl rfl ?_
  refine go 10 ?_
  refine cb rfl (fun h27 p27 => ?_) (fun h27 p27 => ?_)
  ·refine go 4 ?_
   refine o_buildSlice he he rfl rfl rfl rfl rfl rfl rfl (fun v30 => ?_)
   refine go 1 ?_
   refine bring4 ?_
   refine o_appendO he he rfl rfl rfl rfl rfl (by omega) (by omega) rfl (fun v31 => ?_)
   refine go 4 ?_
   refine bring1 ?_
   refine sx_drop ?_
   refine bring1 ?_
   refine sx_drop ?_
   refine bring2 ?_
   refine bring2 ?_
   exact q_next4 (S20) (a ++ b) (done ++ [e2]) (_) ⟨hO1, hT1, perm_step hP htd⟩ (by rw [htd]; simp) rfl sb (by rw [opL_yes p27, List.length_append, List.flatMap_append]; rfl)
  ·refine go 3 ?_
   refine sx_drop ?_
   exact q_next4 (S20) (a ++ b) (done ++ [e2]) (_) ⟨hO1, hT1, perm_step hP htd⟩ (by rw [htd]; simp) rfl sb (by rw [opL_no p27])
 ·obtain ⟨rfl, rfl, rfl⟩ := hst.none h21
  have hdp : done.Perm kvs := by simpa using hP
  refine go 9 ?_
  refine bring2 ?_
  refine o_callX1 (sortRowD _ _ (opL day done) (by omega)) rfl rfl (fun v33 s33 q33 => ?_)
  obtain ⟨rfl, m, hsr, rfl⟩ := q33
  refine go 9 ?_
  refine fin1 rfl rfl ?_
  refine bring1 ?_
  refine sx_drop ?_
  refine bring1 ?_
  refine sx_drop ?_
  refine sx_pubrow (l := m) rfl hsr.1.length_eq.symm (due_flat m) (fun I9 j9 R9 => ?_)
  exact q_i (by rw [open_is hK hdp hsr]; exact R9)

theorem keysIt (I : IMap) (S : ItS) (r : Nat) (kvs : List (ByteArray × Value)) (hO0 : S.Ok Value.string kvs) (hT0 : S.Todo Value.string kvs) (hS0 : S.seen = #[]) (g1 : Nat) (c1 : ICells I g1 0 [.map (some r)]) (hmp : I r = some S.mp) :
    FnIt Tryz.prog 46 [.pointer (some ⟨g1, 0, none⟩)] I (fun _ vs (x : ByteArray) => vs = [.string x]) (fun pre _ => pre.length < kvs.length) (fun pre => pre.Perm (kvs.map Prod.fst)) (fun _ => True) := by
 intro ly J I1 Hc hI1 hJm hY hJ0
 have c1 := c1.le hI1
 have hmp := (hI1) _ _ hmp
 refine enter Tryz.func46 Tryz.call46 rfl Tryz.ntmps46 rfl (fun w0 => ?_)
 refine go 2 ?_
 refine o_v rfl (v_ldI he rfl (c1 0 _ rfl)) ?_
 refine go 1 ?_
 refine o_rangeG (con_map hmp) hS0 he rfl rfl (fun i5 => ?_)
 refine go 3 ?_
 refine c_loop5 (S) (kvs) ([]) (I1) (Hc) (fun S2 todo pre I2 Hc => I2)
  (fun S2 todo pre I2 Hc => [(0, .func (.yield ly) #[] #[]), (5, .pointer (some ⟨i5, 0, none⟩))])
  (fun S2 todo pre I2 Hc => .any i5 (S2.it r) :: Hc)
  (fun S2 todo pre I2 Hc => ILe I1 I2 ∧ S2.mp = S.mp ∧ S2.Ok Value.string kvs ∧ S2.Todo Value.string todo ∧ (pre ++ todo.map Prod.fst).Perm (kvs.map Prod.fst) ∧ J true pre I2 Hc)
  (fun S2 todo pre I2 Hc => todo.length) ⟨ILe.refl _, rfl, hO0, hT0, .refl _, hJ0⟩ rfl sb rfl ?_
 intro S2 todo pre I2 Hc ⟨hI2, hme, hO, hT, hP, hJ⟩
 have hmp2 : I2 r = some S2.mp := by rw [hme]; exact hI2 _ _ hmp
 refine go 3 ?_
 refine o_nextG (con_map hmp2) hO hT rfl rfl (fun q6 S6 t6 hst he6 => ?_)
 refine o_v rfl (v_extract rfl (nextA_0 _ _)) ?_
 refine go 3 ?_
 refine cb rfl (fun h7 p7 => ?_) (fun h7 p7 => ?_)
 ·obtain ⟨e2, a, b, htd, hO1, hT1, hA1, rfl, rfl⟩ := hst.some h7
  have hmp3 : I2 r = some S6.mp := by rw [he6]; exact hmp2
  refine go 5 ?_
  refine o_v rfl (v_entryG (con_map hmp3) m0 hO1 hA1 rfl) ?_
  refine o_v rfl (OV.cast (u := .string e2.1) (v_extract rfl rfl) rfl) ?_
  refine go 8 ?_
  refine o_yield1 (e2.1) hY (hJm _ _ _ _ _ (ILe.refl _) hJ) (rfl) ((keys_lt hP htd)) rfl rfl rfl (fun b12 I12 Hc12 j12 hJ12 => ?_)
  refine go 3 ?_
  refine cb rfl (fun h13 p13 => ?_) (fun h13 p13 => ?_)
  ·have hb12 : b12 = false := by simpa using h13
   refine go 4 ?_
   refine fin0 rfl ?_
   refine sx_drop ?_
   subst hb12
   exact q_it false _ hJ12 trivial
  ·have hb12 : b12 = true := by simpa using h13
   refine go 3 ?_
   exact q_next5 (S6) (a ++ b) (pre ++ [e2.1]) (I12) (Hc12) ⟨hI2.trans j12, he6.trans hme, hO1, hT1, keys_step hP htd, hb12 ▸ hJ12⟩ (by rw [htd]; simp) rfl sb rfl
 ·obtain ⟨rfl, rfl, rfl⟩ := hst.none h7
  refine go 4 ?_
  refine end0 rfl ?_
  refine sx_drop ?_
  exact q_it true _ hJ (by simpa using hP)

theorem keysC (I : IMap) (r : Nat) :
    FnI Tryz.prog 28 #[.map (some r)] I (fun u J => ∃ g, u = .func (.func 46) #[] #[.pointer (some ⟨g, 0, none⟩)] ∧ ICells J g 0 [.map (some r)]) := by
 refine enter Tryz.func28 Tryz.call28 rfl Tryz.ntmps28 rfl (fun w0 => ?_)
 refine go 3 ?_
 refine o_box _ rfl rfl rfl (fun g1 => ?_)
 refine go 5 ?_
 refine sx_pub (fun Ig1 jg1 cg1 => ?_)
 refine o_v rfl (v_makeFunc rfl rfl) ?_
 refine go 4 ?_
 refine fin1 rfl rfl ?_
 exact q_i ⟨_, rfl, cg1⟩

theorem appendSeq (I : IMap) (g : Nat) (Ls : List ByteArray) (hLs : Ls.length ≤ 1000000) (hit : FnIt Tryz.prog 46 [.pointer (some ⟨g, 0, none⟩)] I (fun _ vs (x : ByteArray) => vs = [.string x]) (fun pre _ => pre.length < Ls.length) (fun pre => pre.Perm Ls) (fun _ => True)) :
    FnH Tryz.prog 67 #[.slice none 0 0, .func (.func 46) #[] #[.pointer (some ⟨g, 0, none⟩)]] I [] (fun u J H2 => ∃ m, H2 = [.row u 9 1 m.length (strCh m).flatten] ∧ m.Perm Ls) := by
 refine enter Tryz.func67 Tryz.call67 rfl Tryz.ntmps67 rfl (fun w0 => ?_)
 refine go 3 ?_
 refine o_box _ rfl rfl rfl (fun g2 => ?_)
 refine go 6 ?_
 refine sx_nilrow 9 1 ?_
 refine go 4 ?_
 refine bring1 ?_
 refine c_range (σ := Value × List ByteArray) (ps := [7]) (.slice none 0 0, []) (fun ⟨v2, m⟩ => [.blk g2 30 [v2], .row v2 9 1 m.length (strCh m).flatten]) (fun pre I ⟨v2, m⟩ => m = pre) (fun _ _ _ _ => False) rfl Tryz.call46 (hit) (fun I vs x h => by rw [h]; rfl) rfl (fun pre I I' s hI h => by obtain ⟨v2, m⟩ := s; exact h) (fun _ _ _ _ _ _ h => h) (rfl) rfl ?_ ?_ ?_
 ·rintro r E1 pre x vs I1 ⟨v2, m⟩ hI1 rfl rfl hlt
  refine sx_exp2 ?_
  refine go 3 ?_
  refine r_begin ?_
  refine go 5 ?_
  refine o_buildSlice he he rfl rfl rfl rfl rfl rfl rfl (fun v10 => ?_)
  refine go 1 ?_
  refine bring4 ?_
  refine o_appendO he he rfl rfl rfl rfl rfl (by omega) (by omega) rfl (fun v11 => ?_)
  refine sx_rowslice (fun A11 c11 hv11 => ?_)
  subst hv11
  refine go 1 ?_
  refine bring4 ?_
  refine o_stw _ he rfl rfl rfl rfl rfl rfl ?_
  refine go 2 ?_
  refine bring2 ?_
  refine sx_drop ?_
  refine bring1 ?_
  refine bring1 ?_
  refine bring3 ?_
  refine bring3 ?_
  exact r_next ((.slice A11 (m.length + 1) c11, m ++ [x])) (hI1) (rfl) (by show _ = [Res.blk g2 30 [.slice A11 (m.length + 1) c11], Res.row (.slice A11 (m.length + 1) c11) 9 1 (m ++ [x]).length (strCh (m ++ [x])).flatten]; rw [List.length_append, strs_flat, strs_flat, List.map_append]; rfl)
 ·rintro D pre I1 ⟨v2, m⟩ hI1 hfull rfl
  refine sx_app2 ?_
  refine go 9 ?_
  refine q_mark ?_
  refine fin1 rfl rfl ?_
  refine sx_drop ?_
  refine sx_drop ?_
  exact q_post (fun _ m => m) ⟨m, rfl, hfull⟩
 ·rintro D pre I1 s cd hI1 hpart h
  exact h.elim

theorem collectS (I : IMap) (g : Nat) (Ls : List ByteArray) (hLs : Ls.length ≤ 1000000) (hit : FnIt Tryz.prog 46 [.pointer (some ⟨g, 0, none⟩)] I (fun _ vs (x : ByteArray) => vs = [.string x]) (fun pre _ => pre.length < Ls.length) (fun pre => pre.Perm Ls) (fun _ => True)) :
    FnH Tryz.prog 44 #[.func (.func 46) #[] #[.pointer (some ⟨g, 0, none⟩)]] I [] (fun u J H2 => ∃ m, H2 = [.row u 9 1 m.length (strCh m).flatten] ∧ m.Perm Ls) := by
 refine enter Tryz.func44 Tryz.call44 rfl Tryz.ntmps44 rfl (fun w0 => ?_)
 refine go 9 ?_
 refine o_callH0 (appendSeq _ g Ls hLs hit) rfl rfl (fun u4 I4 H4 j4 q4 => ?_)
 obtain ⟨m, rfl, hpm⟩ := q4
 refine sx_app1' ?_
 refine go 4 ?_
 refine fin1 rfl rfl ?_
 exact q_post (fun _ m => m) ⟨m, rfl, hpm⟩

theorem sortedS (I : IMap) (g : Nat) (Ls : List ByteArray) (hLs : Ls.length ≤ 1000000) (hit : FnIt Tryz.prog 46 [.pointer (some ⟨g, 0, none⟩)] I (fun _ vs (x : ByteArray) => vs = [.string x]) (fun pre _ => pre.length < Ls.length) (fun pre => pre.Perm Ls) (fun _ => True)) :
    FnI Tryz.prog 27 #[.func (.func 46) #[] #[.pointer (some ⟨g, 0, none⟩)]] I (fun u J => ∃ m, RdS J u m ∧ SrtP Ls m) := by
 refine enter Tryz.func27 Tryz.call27 rfl Tryz.ntmps27 rfl (fun w0 => ?_)
 refine go 9 ?_
 refine o_callH0 (collectS _ g Ls hLs hit) rfl rfl (fun u5 I5 H5 j5 q5 => ?_)
 obtain ⟨m0, rfl, hpm⟩ := q5
 have hml := hpm.length_eq
 refine sx_app1' ?_
 refine go 7 ?_
 refine o_callX1 (sortRowS _ _ m0 _ (str_flat _ m0).flat (by omega)) rfl rfl (fun v7 s7 q7 => ?_)
 obtain ⟨rfl, m, ys, hsr, hFm, rfl⟩ := q7
 refine go 9 ?_
 refine fin1 rfl rfl ?_
 refine sx_pubrow (l := m) rfl hsr.1.length_eq.symm hFm (fun I9 j9 R9 => ?_)
 exact q_i ⟨m, R9, hsr.perm hpm⟩

theorem duOverdue (I : IMap) (vd : Value) (ds : List Dut) (hds : RdS I vd ds) (hdl : ds.length ≤ 1000000) (hsd : ∀ d ∈ ds, SmD d) (vc : Value) (c : List Kind) (hvc : RdS I vc c) (hsc : SmC c) (v : Value) (l : List Evt) (hv : RdS I v l) (hl : l.length ≤ 1000000) (hse : ∀ e ∈ l, SmE e) (p : ByteArray) (day : Int) :
    FnI Tryz.prog 13 #[vd, .agg #[vc], v, .string p, .int .i64 (day)] I (fun u J => RdS J u (lateN ds c l p day)) := by
 refine enter Tryz.func13 Tryz.call13 rfl Tryz.ntmps13 rfl (fun w0 => ?_)
 refine go 3 ?_
 refine o_box _ rfl rfl rfl (fun g6 => ?_)
 refine go 6 ?_
 refine o_map0 (Value.string) he rfl (fun r13 => ?_)
 refine go 12 ?_
 refine o_callH0 (duPending _ vd ds hds hdl hsd vc c hvc hsc v l hv hl hse p day) rfl rfl (fun u19 I19 H19 j19 q19 => ?_)
 obtain ⟨r19, kvs, rfl, rfl, hK⟩ := q19
 have hkl := Nat.le_trans hK.len (pendF_len ds c l p day)
 refine sx_app1' ?_
 refine sx_openmap (fun S0 hO0 hT0 hS0 => ?_)
 refine go 1 ?_
 refine o_range hS0 he rfl rfl (fun i20 => ?_)
 refine go 3 ?_
 refine bring3 ?_
 refine sx_drop ?_
 refine c_loop4 (S0) (kvs) ([]) ([]) (fun S todo done ns => I19)
  (fun S todo done ns => [(4, .int .i64 (day)), (11, .map (some r13)), (20, .pointer (some ⟨i20, 0, none⟩))])
  (fun S todo done ns => [.any i20 (S.it r19), .any r19 S.mp, .mp r13 (emap Value.string ns)])
  (fun S todo done ns => S.Ok encDue kvs ∧ S.Todo encDue todo ∧ (done ++ todo).Perm kvs ∧ KeysN ns (lateL day done))
  (fun S todo done ns => todo.length) ⟨hO0, hT0, .refl _, KeysN.nil⟩ rfl sb rfl ?_
 intro S todo done ns ⟨hO, hT, hP, hN⟩
 have hdl2 := hP.length_eq
 rw [List.length_append] at hdl2
 refine go 3 ?_
 refine bring1 ?_
 refine bring1 ?_
 refine o_next hO hT rfl rfl (fun q21 S21 t21 hst => ?_)
 refine o_v rfl (v_extract rfl (nextA_0 _ _)) ?_
 refine go 3 ?_
 refine cb rfl (fun h22 p22 => ?_) (fun h22 p22 => ?_)
 ·obtain ⟨e2, a, b, htd, hO1, hT1, hA1, rfl, rfl⟩ := hst.some h22
  refine go 5 ?_
  refine o_v rfl (v_entry m0 m1 hO1 hA1 rfl) ?_
  refine o_v rfl (OV.cast (u := .agg e2.1.cells.toArray) (v_extract rfl rfl) rfl) ?_
  refine go 1 ?_
  refine o_alloc he rfl (fun g12 => ?_)
  refine go 1 ?_
  refine o_stw _ he rfl rfl rfl rfl rfl rfl ?_
  refine go 10 ?_
  refine cb rfl (fun h28 p28 => ?_) (fun h28 p28 => ?_)
  ·refine go 5 ?_
   refine bring3 ?_
   refine o_mapPut (mput ns e2.1.rule (.bool true)) (key_string he) he (e2.1.rule) rfl rfl rfl (rfl) ?_
   refine go 3 ?_
   refine bring1 ?_
   refine sx_drop ?_
   refine bring2 ?_
   refine bring2 ?_
   exact q_next4 (S21) (a ++ b) (done ++ [e2]) (mput ns e2.1.rule (.bool true)) ⟨hO1, hT1, perm_step hP htd, hN.yes p28⟩ (by rw [htd]; simp) rfl sb rfl
  ·refine go 3 ?_
   refine sx_drop ?_
   exact q_next4 (S21) (a ++ b) (done ++ [e2]) (ns) ⟨hO1, hT1, perm_step hP htd, hN.no p28⟩ (by rw [htd]; simp) rfl sb rfl
 ·obtain ⟨rfl, rfl, rfl⟩ := hst.none h22
  have hdp : done.Perm kvs := by simpa using hP
  have hnl := hN.len
  have hdl3 := hdp.length_eq
  refine bring2 ?_
  refine sx_openmap (fun S1 hO2 hT2 hS2 => ?_)
  refine sx_pubmap (fun I8 j8 hmp => ?_)
  refine go 9 ?_
  refine o_call (keysC _ r13) rfl rfl (fun v33 I33 j33 q33 => ?_)
  obtain ⟨g33, rfl, cg33⟩ := q33
  refine go 1 ?_
  refine o_call (sortedS _ g33 (ns.map Prod.fst) (by rw [List.length_map]; omega) (by rw [List.length_map]; exact keysIt _ S1 r13 ns hO2 hT2 hS2 g33 cg33 (j33 _ _ hmp))) rfl rfl (fun v34 I34 j34 q34 => ?_)
  obtain ⟨m, q34, hsr⟩ := q34
  refine go 4 ?_
  refine fin1 rfl rfl ?_
  exact q_i (by rw [late_is hK hdp hN hsr]; exact q34)

end Go.Proofs.YtdkjmaoelojpeaaGreat

/- The reference of duties. -/
set_option linter.all false
namespace Go.Sx
open Go
section
variable {d : Dut} {l : List Evt} {p : ByteArray} {day b : Int}
def metP (d : Dut) (p : ByteArray) (b day : Int) (x : Evt) : Bool := ((((decide (x.op = 6) && decide (x.part = p)) && decide (x.key = d.key)) && decide (x.day ≥ b)) && decide (x.day ≤ b + d.within)) && decide (x.day ≤ day)
def metR (d : Dut) (l : List Evt) (p : ByteArray) (b day : Int) : Bool := l.any (metP d p b day)
theorem metR_is : metR d l p b day = metN d (noteL d l p day) b := by
  rw [Bool.eq_iff_iff]
  unfold metR metN noteL
  simp only [List.any_eq_true, List.mem_map, List.mem_filter, metP, ownE, Bool.and_eq_true, decide_eq_true_eq]
  constructor
  · rintro ⟨x, hx, ⟨⟨⟨⟨h1, h2⟩, h3⟩, h4⟩, h5⟩, h6⟩
    exact ⟨x.day, ⟨x, ⟨hx, ⟨h2, h6⟩, h1, h3⟩, rfl⟩, h4, h5⟩
  · rintro ⟨n, ⟨x, ⟨hx, ⟨h2, h6⟩, h1, h3⟩, rfl⟩, h4, h5⟩
    exact ⟨x, hx, ⟨⟨⟨⟨h1, h2⟩, h3⟩, h4⟩, h5⟩, h6⟩
theorem met_next {i : Nat} (hi : i < l.length) (h : (l.take i).any (metP d p b day) = false) (h2 : metP d p b day l[i] = false) : (l.take (i + 1)).any (metP d p b day) = false := by
  rw [← take_succ_of hi, List.any_append, h]; simp [h2]
theorem met_hit {i : Nat} (hi : i < l.length) (h2 : metP d p b day l[i] = true) : metR d l p b day = true := List.any_eq_true.2 ⟨_, List.getElem_mem hi, h2⟩
/-- an event that a duty waits on -/
def begP (d : Dut) (p : ByteArray) (day : Int) (x : Evt) : Bool := (decide (x.op = d.after) && decide (x.part = p)) && decide (x.day ≤ day)
def pendP (d : Dut) (l : List Evt) (p : ByteArray) (day : Int) (x : Evt) : Bool := begP d p day x && !metR d l p x.day day
def pendR (d : Dut) (l : List Evt) (p : ByteArray) (day : Int) (q : List Evt) : List Int := (q.filter (pendP d l p day)).map fun x => x.day + d.within
theorem pendR_is : pendR d l p day l = pendD d l p day := by
  unfold pendR pendD begL
  rw [List.filter_map, List.map_map, List.filter_filter]
  congr 1
  refine List.filter_congr fun x _ => ?_
  simp only [pendP, begP, ownE, Function.comp, metR_is]
  cases decide (x.op = d.after) <;> cases decide (x.part = p) <;> cases decide (x.day ≤ day) <;> simp
theorem pendR_yes {i : Nat} (hi : i < l.length) (h : pendP d l p day l[i] = true) : pendR d l p day (l.take (i + 1)) = pendR d l p day (l.take i) ++ [l[i].day + d.within] := by
  unfold pendR; rw [← take_succ_of hi, List.filter_append]; simp [h]
theorem pendR_no {i : Nat} (hi : i < l.length) (h : pendP d l p day l[i] = false) : pendR d l p day (l.take (i + 1)) = pendR d l p day (l.take i) := by
  unfold pendR; rw [← take_succ_of hi, List.filter_append]; simp [h]
theorem pendR_len (q : List Evt) : (pendR d l p day q).length ≤ q.length := by unfold pendR; rw [List.length_map]; exact List.length_filter_le _ _
theorem least_fold {q : List Int} (h : 0 < q.length) : q.foldl min q[0] = (leastN q).getD 0 := by
  cases q with
  | nil => simp at h
  | cons x q => simp [leastN]
theorem least_next {q : List Int} {i : Nat} {m : Int} (hi : i < q.length) {x : Int} (h : (q.take i).foldl min x = m) : (q.take (i + 1)).foldl min x = min m q[i] := by
  rw [← take_succ_of hi, List.foldl_append, h]; rfl
def liveB (c : List Kind) (l : List Evt) (p : ByteArray) (day : Int) : Bool := (decide ((atF11 c l day).2.2 = 0) && (findP (atF11 c l day).1 p).isSome) && !((findP (atF11 c l day).1 p).getD zPart).scrapped
theorem liveB_is {c : List Kind} : liveK c l p day = if liveB c l p day = true then some ((findP (atF11 c l day).1 p).getD zPart).kind else none := by
  unfold liveK liveB
  simp only [Bool.and_eq_true, decide_eq_true_eq, Bool.not_eq_true', and_assoc]
end
section
variable {α : Type} [DecidableEq α] {lt : α → α → Bool} {x : α}
theorem insU_new : ∀ {l : List α} {k : Nat}, k ≤ l.length → (∀ j (h : j < l.length), j < k → lt l[j] x = true) → (∀ h : k < l.length, lt l[k] x = false ∧ l[k] ≠ x) → insU lt x l = l.take k ++ x :: l.drop k
  | [], k, hk, _, _ => by simp [insU]
  | y :: l, 0, _, _, h2 => by
    obtain ⟨a, b⟩ := h2 (by simp)
    have a' : lt y x = false := a
    have b' : ¬ y = x := b
    simp [insU, a', b']
  | y :: l, k + 1, hk, h1, h2 => by
    have hy : lt y x = true := h1 0 (by simp) (by omega)
    rw [insU, if_pos hy, insU_new (l := l) (k := k) (by simpa using hk) (fun j h hj => h1 (j + 1) (by simpa using h) (by omega)) (fun h => h2 (by simpa using h))]
    rfl
theorem insU_old : ∀ {l : List α} {k : Nat} (hk : k < l.length), (∀ j (h : j < l.length), j < k → lt l[j] x = true) → lt l[k] x = false → l[k] = x → insU lt x l = l
  | [], k, hk, _, _, _ => by simp at hk
  | y :: l, 0, _, _, h2, he => by
    have a' : lt y x = false := h2
    have b' : y = x := he
    simp [insU, a', b']
    intro h; rw [← b'] at h; rw [b'] at a'; rw [b', a'] at h; cases h
  | y :: l, k + 1, hk, h1, h2, he => by
    have hy : lt y x = true := h1 0 (by simp) (by omega)
    rw [insU, if_pos hy, insU_old (l := l) (k := k) (by simpa using hk) (fun j h hj => h1 (j + 1) (by simpa using h) (by omega)) h2 he]
theorem insU_len : ∀ (l : List α), (insU lt x l).length ≤ l.length + 1
  | [] => by simp [insU]
  | y :: l => by
    simp only [insU]
    split
    · have := insU_len l; simp; omega
    · split
      · simp
      · simp
theorem srtU_snoc (l : List α) : srtU lt (l ++ [x]) = insU lt x (srtU lt l) := by unfold srtU; rw [List.foldl_append]; rfl
theorem srtU_len (l : List α) : (srtU lt l).length ≤ l.length := by
  have key : ∀ (l a : List α), (l.foldl (fun a x => insU lt x a) a).length ≤ a.length + l.length := by
    intro l
    induction l with
    | nil => intro a; simp
    | cons y l ih => intro a; have h1 := ih (insU lt y a); have h2 := insU_len (lt := lt) (x := y) a; simp only [List.foldl_cons, List.length_cons]; omega
  have h := key l []
  rw [List.length_nil, Nat.zero_add] at h
  exact h
end
section
variable {d : Dut} {ds : List Dut} {c : List Kind} {l : List Evt} {p k : ByteArray} {day n : Int} {i : Nat}
def lateTo (ds : List Dut) (k : ByteArray) (l : List Evt) (p : ByteArray) (day : Int) (i : Nat) : List ByteArray := srtU sLt ((((ds.take i).filterMap (dueOf k l p day)).filter fun x => decide (x.day < day)).map Due.rule)
def openTo' (ds : List Dut) (k : ByteArray) (l : List Evt) (p : ByteArray) (day : Int) (i : Nat) : List Due := srtU dueLt (((ds.take i).filterMap (dueOf k l p day)).filter fun x => decide (x.day ≥ day))
theorem lateTo_none (hi : i < ds.length) (h : dueOf k l p day ds[i] = none) : lateTo ds k l p day (i + 1) = lateTo ds k l p day i := by
  unfold lateTo; rw [← take_succ_of hi, List.filterMap_append]; simp [h]
theorem lateTo_not (hi : i < ds.length) (h : dueOf k l p day ds[i] = some ⟨p, ds[i].name, n⟩) (hn : ¬ n < day) : lateTo ds k l p day (i + 1) = lateTo ds k l p day i := by
  unfold lateTo; rw [← take_succ_of hi, List.filterMap_append]; simp [h, hn]
theorem lateTo_add (hi : i < ds.length) (h : dueOf k l p day ds[i] = some ⟨p, ds[i].name, n⟩) (hn : n < day) : lateTo ds k l p day (i + 1) = insU sLt ds[i].name (lateTo ds k l p day i) := by
  unfold lateTo; rw [← take_succ_of hi, List.filterMap_append, ← srtU_snoc]; simp [h, hn]
theorem openTo_none (hi : i < ds.length) (h : dueOf k l p day ds[i] = none) : openTo' ds k l p day (i + 1) = openTo' ds k l p day i := by
  unfold openTo'; rw [← take_succ_of hi, List.filterMap_append]; simp [h]
theorem openTo_not (hi : i < ds.length) (h : dueOf k l p day ds[i] = some ⟨p, ds[i].name, n⟩) (hn : n < day) : openTo' ds k l p day (i + 1) = openTo' ds k l p day i := by
  unfold openTo'; rw [← take_succ_of hi, List.filterMap_append]; simp [h, show ¬ day ≤ n by omega]
theorem openTo_add (hi : i < ds.length) (h : dueOf k l p day ds[i] = some ⟨p, ds[i].name, n⟩) (hn : ¬ n < day) : openTo' ds k l p day (i + 1) = insU dueLt ⟨p, ds[i].name, n⟩ (openTo' ds k l p day i) := by
  unfold openTo'; rw [← take_succ_of hi, List.filterMap_append, ← srtU_snoc]; simp [h, show day ≤ n by omega]
theorem lateTo_len : (lateTo ds k l p day i).length ≤ ds.length := by
  unfold lateTo
  refine Nat.le_trans (srtU_len _) ?_
  rw [List.length_map]
  exact Nat.le_trans (List.length_filter_le _ _) (Nat.le_trans (List.length_filterMap_le _ _) (by rw [List.length_take]; omega))
theorem openTo_len : (openTo' ds k l p day i).length ≤ ds.length := by
  unfold openTo'
  exact Nat.le_trans (srtU_len _) (Nat.le_trans (List.length_filter_le _ _) (Nat.le_trans (List.length_filterMap_le _ _) (by rw [List.length_take]; omega)))
theorem late_all (h : liveB c l p day = true) : lateTo ds ((findP (atF11 c l day).1 p).getD zPart).kind l p day ds.length = lateN ds c l p day := by
  unfold lateTo lateN
  rw [pendF_live (k := ((findP (atF11 c l day).1 p).getD zPart).kind) (by rw [liveB_is, if_pos h]), List.take_length]
theorem open_all (h : liveB c l p day = true) : openTo' ds ((findP (atF11 c l day).1 p).getD zPart).kind l p day ds.length = openD ds c l p day := by
  unfold openTo' openD
  rw [pendF_live (k := ((findP (atF11 c l day).1 p).getD zPart).kind) (by rw [liveB_is, if_pos h]), List.take_length]
theorem dead_pend (h : liveB c l p day = false) : pendF ds c l p day = [] := by
  unfold pendF; rw [liveB_is, if_neg (by rw [h]; decide)]
theorem due_empty (h : (pendD d l p day).length = 0) : dueOf k l p day d = none := dueOf_no (by rw [List.eq_nil_of_length_eq_zero h]; rfl)
theorem due_full (hv : validDu d = true) (hk : d.kind = k) (h : ¬ (pendD d l p day).length = 0) : dueOf k l p day d = some ⟨p, d.name, (leastN (pendD d l p day)).getD 0⟩ := dueOf_yes hv hk (by
  cases hp : pendD d l p day with
  | nil => rw [hp] at h; exact absurd rfl h
  | cons x q => rfl)
end
end Go.Sx

