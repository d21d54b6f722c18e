/- The library of a symbolic run and the walks: merged. -/
import Derived.Test.YthcefohbbfjjfaaGreatZLmc
import Derived.Laws.Bits64b
import Derived.Lib.Mul64
import Derived.Maps.RangeRun
import Derived.Scope
/- Walks, printed by a program out of the code of the functions: each theorem is a contract of one function. -/
namespace Go.Proofs.YthcefohbbfjjfaaGreat
open Go Go.Sx
set_option linter.all false
set_option maxRecDepth 20000
set_option maxHeartbeats 4000000
theorem ref10with (I : IMap) (v : Value) (l : List Part) (hv : RdS I v l) (hl : l.length ≤ 1000000) (x : Part) (B : Option Addr) (d : Nat) (hr : Enc.rd I (x.cells (.slice B x.props.length d)) x) :
    FnI Tryz.prog 136 #[.agg #[v], .agg (x.cells (.slice B x.props.length d)).toArray] I (fun u J => ∃ w, u = .agg #[w] ∧ RdS J w (withF Part.name x l)) := by
 obtain ⟨A, c0, rfl, hA, hc, hm⟩ := hv
 refine enter Tryz.func136 Tryz.call136 rfl Tryz.ntmps136 rfl (fun w0 => ?_)
 refine go 3 ?_
 refine o_box _ rfl rfl rfl (fun g2 => ?_)
 refine go 1 ?_
 refine o_box _ rfl rfl rfl (fun g3 => ?_)
 refine go 1 ?_
 refine o_alloc he rfl (fun g4 => ?_)
 refine go 5 ?_
 refine o_alloc he rfl (fun g5 => ?_)
 refine go 4 ?_
 refine sx_nilrow 49 14 ?_
 refine go 10 ?_
 refine c_loop5 ((0 : Nat)) (_) ([]) (_) ([]) (fun i v xs b out => I)
  (fun i v xs b out => [(2, .pointer (some ⟨g2, 0, none⟩)), (3, .pointer (some ⟨g3, 0, none⟩)), (4, .pointer (some ⟨g4, 0, none⟩)), (5, .pointer (some ⟨g5, 0, none⟩)), (6, .bool b), (7, .int .i64 ((i : Nat) : Int))])
  (fun i v xs b out => [.row v 49 14 out.length xs, .blk g5 39 [v], .blk g4 39 [.slice none 0 0], .blk g3 49 (x.cells (.slice B x.props.length d)), .blk g2 39 [.slice A l.length c0]])
  (fun i v xs b out => i ≤ l.length ∧ wF Part.name x (l.take i) = (out, b) ∧ Flat I xs out)
  (fun i v xs b out => l.length - i) ⟨Nat.zero_le _, rfl, .nil⟩ rfl sb rfl ?_
 intro i v xs b out ⟨hi, hw, hF⟩
 have hol := w_le hw
 refine go 10 ?_
 refine cb rfl (fun h12 p12 => ?_) (fun h12 p12 => ?_)
 ·have hlt : i < l.length := by omega
  refine go 6 ?_
  refine d_startH T.mixed ?_
  refine d_tv 0 rfl rfl (by kernel_rfl) rfl (.refl _) rfl (v_move rfl) ?_
  refine d_tv 1 rfl rfl (by kernel_rfl) rfl (.refl _) rfl (v_not rfl) ?_
  refine d_tv 2 rfl rfl (by kernel_rfl) rfl (.refl _) rfl (v_move rfl) ?_
  refine sxb 17 rfl (fun h17 p17 => ?_) (fun h17 p17 => ?_)
  ·refine d_t 3 rfl rfl (by kernel_rfl) rfl (fun _ m => m.keeps (.refl _)) (y_yes rfl rfl h17 (v_fieldAddr he rfl)) ?_
   refine d_t 4 rfl rfl (by kernel_rfl) rfl (fun _ m => m.keeps (.refl _)) (y_yes rfl rfl h17 (v_ld m4 he rfl rfl)) ?_
   refine d_t 5 rfl rfl (by kernel_rfl) rfl (fun _ m => m.keeps (.refl _)) (y_yes rfl rfl h17 (v_move rfl)) ?_
   obtain ⟨b21, o21, w21, e21, c21, r21⟩ := RdA.at_ hA (i := i) hlt
   obtain ⟨q21, rfl, B21, d21, rfl, hB21, hd21, hm21⟩ := r21
   refine d_t 6 rfl rfl (by kernel_rfl) rfl (fun _ m => m.keeps (.refl _)) (y_yes rfl rfl h17 (v_idx he rfl rfl e21 (i) (by omega) hlt)) ?_
   refine d_t 7 rfl rfl (by kernel_rfl) rfl (fun _ m => m.keeps (.refl _)) (y_yes rfl rfl h17 (v_fieldAddr he rfl)) ?_
   refine d_t 8 rfl rfl (by kernel_rfl) rfl (fun _ m => m.keeps (.refl _)) (y_yes rfl rfl h17 (v_ldI he rfl (c21 0 _ rfl))) ?_
   refine d_t 9 rfl rfl (by kernel_rfl) rfl (fun _ m => m.keeps (.refl _)) (y_yes rfl rfl h17 (v_fieldAddr he rfl)) ?_
   refine d_t 10 rfl rfl (by kernel_rfl) rfl (fun _ m => m.keeps (.refl _)) (y_yes rfl rfl h17 (v_ld m3 he rfl rfl)) ?_
   refine d_t 11 rfl rfl (by kernel_rfl) rfl (fun _ m => m.keeps (.refl _)) (y_yes rfl rfl h17 (v_sgeq rfl rfl)) ?_
   refine d_tv 12 rfl rfl (by kernel_rfl) rfl (.refl _) rfl (v_and_t h17 rfl rfl) ?_
   refine d_done (by kernel_rfl) ?_
   refine go 1 ?_
   refine cb rfl (fun h27 p27 => ?_) (fun h27 p27 => ?_)
   ·refine go 6 ?_
    refine o_buildSlice he he rfl rfl rfl rfl rfl rfl rfl (fun v31 => ?_)
    refine go 1 ?_
    refine bring1 ?_
    refine o_appendO he he rfl rfl rfl rfl rfl (by omega) (by omega) rfl (fun v32 => ?_)
    refine sx_row1 (fun u => ?_)
    refine go 2 ?_
    refine bring2 ?_
    refine o_st1 he rfl rfl u rfl ?_
    refine go 7 ?_
    refine d_startH T.mixed ?_
    refine d_tv 0 rfl rfl (by kernel_rfl) rfl (.refl _) rfl (v_fieldAddr he rfl) ?_
    refine d_tv 1 rfl rfl (by kernel_rfl) rfl (.refl _) rfl (v_ld m5 he rfl rfl) ?_
    refine d_tv 2 rfl rfl (by kernel_rfl) rfl (.refl _) rfl (v_move rfl) ?_
    obtain ⟨b37, o37, w37, e37, c37, r37⟩ := RdA.at_ hA (i := i) hlt
    obtain ⟨q37, rfl, B37, d37, rfl, hB37, hd37, hm37⟩ := r37
    refine d_tv 3 rfl rfl (by kernel_rfl) rfl (.refl _) rfl (v_idx he rfl rfl e37 (i) (by omega) hlt) ?_
    refine d_tv 4 rfl rfl (by kernel_rfl) rfl (.refl _) rfl (v_fieldAddr he rfl) ?_
    refine d_tv 5 rfl rfl (by kernel_rfl) rfl (.refl _) rfl (v_ldI he rfl (c37 0 _ rfl)) ?_
    refine d_tv 6 rfl rfl (by kernel_rfl) rfl (.refl _) rfl (v_fieldAddr he rfl) ?_
    refine d_tv 7 rfl rfl (by kernel_rfl) rfl (.refl _) rfl (v_ld m4 he rfl rfl) ?_
    refine d_tv 8 rfl rfl (by kernel_rfl) rfl (.refl _) rfl (v_sneq rfl rfl) ?_
    refine d_done (by kernel_rfl) ?_
    refine go 1 ?_
    refine cb rfl (fun h42 p42 => ?_) (fun h42 p42 => ?_)
    ·refine bring1 ?_
     refine d_start2 T.mixed ?_
     refine d_tv 0 rfl rfl (by kernel_rfl) rfl (.cons _ (.cons _ (.refl _))) rfl (v_fieldAddr he rfl) ?_
     refine d_tv 2 rfl rfl (by kernel_rfl) rfl (.cons _ (.cons _ (.refl _))) rfl (v_fieldAddr he rfl) ?_
     refine d_tv 3 rfl rfl (by kernel_rfl) rfl (.cons _ (.cons _ (.refl _))) rfl (v_ld m3 he rfl rfl) ?_
     refine d_tv 4 rfl rfl (by kernel_rfl) rfl (.cons _ (.cons _ (.refl _))) rfl (v_move rfl) ?_
     obtain ⟨b48, o48, w48, e48, c48, r48⟩ := RdA.at_ hA (i := i) hlt
     obtain ⟨q48, rfl, B48, d48, rfl, hB48, hd48, hm48⟩ := r48
     refine d_tv 5 rfl rfl (by kernel_rfl) rfl (.cons _ (.cons _ (.refl _))) rfl (v_idx he rfl rfl e48 (i) (by omega) hlt) ?_
     refine d_tv 6 rfl rfl (by kernel_rfl) rfl (.cons _ (.cons _ (.refl _))) rfl (v_ldIa he rfl c48 rfl) ?_
     refine d_two 1 7 (by kernel_rfl) rfl rfl ?_ ?_
     ·refine o_val rfl (v_ld m1 he rfl rfl) ?_
      refine d_on (fun _ m => m.keeps (.cons _ (.cons _ (.refl _)))) ?_
      refine d_one 7 (by kernel_rfl) rfl ?_
      refine o_buildSlice he he rfl rfl rfl rfl rfl rfl rfl (fun v50 => ?_)
      refine d_on (fun _ m => m.keeps (.cons _ (.cons _ (.cons _ (.refl _))))) ?_
      refine d_one 8 (by kernel_rfl) rfl ?_
      refine bring1 ?_
      refine o_appendO he he rfl rfl rfl rfl rfl (by omega) (by omega) rfl (fun v51 => ?_)
      refine sx_row1 (fun u => ?_)
      refine d_on (fun _ m => m.keeps (.cons _ (.cons _ (.cons _ (.refl _))))) ?_
      refine d_tv 9 rfl rfl (by kernel_rfl) rfl (.cons _ (.cons _ (.cons _ (.refl _)))) rfl (v_fieldAddr he rfl) ?_
      refine d_one 10 (by kernel_rfl) rfl ?_
      refine bring2 ?_
      refine o_st1 he rfl rfl u rfl ?_
      refine d_on (fun _ m => m.keeps (.cons _ (.cons _ (.cons _ (.refl _))))) ?_
      refine d_done (by kernel_rfl) ?_
      refine go 8 ?_
      refine bring2 ?_
      refine sx_drop ?_
      refine bring2 ?_
      refine sx_drop ?_
      refine bring4 ?_
      refine bring4 ?_
      refine bring4 ?_
      refine bring3 ?_
      refine bring4 ?_
      exact q_next5 (i + 1) (_) (_) (_) (out ++ [x] ++ [l[i]]) ⟨by omega, wF_tt hlt hw h17 h27 h42, (hF.append (.one hr)).append (.one ⟨_, rfl, B48, d48, rfl, hB48, hd48, hm48⟩)⟩ (by omega) rfl sb (by first | rfl | (simp only [List.length_append, List.length_singleton]; rfl) | simp only [List.length_append, List.length_singleton])
     ·refine o_buildSlice he he rfl rfl rfl rfl rfl rfl rfl (fun v50 => ?_)
      refine d_on (fun _ m => m.keeps (.cons _ (.cons _ (.cons _ (.refl _))))) ?_
      refine d_one 1 (by kernel_rfl) rfl ?_
      refine o_val rfl (v_ld m2 he rfl rfl) ?_
      refine d_on (fun _ m => m.keeps (.cons _ (.cons _ (.cons _ (.refl _))))) ?_
      refine d_one 8 (by kernel_rfl) rfl ?_
      refine bring1 ?_
      refine o_appendO he he rfl rfl rfl rfl rfl (by omega) (by omega) rfl (fun v51 => ?_)
      refine sx_row1 (fun u => ?_)
      refine d_on (fun _ m => m.keeps (.cons _ (.cons _ (.cons _ (.refl _))))) ?_
      refine d_tv 9 rfl rfl (by kernel_rfl) rfl (.cons _ (.cons _ (.cons _ (.refl _)))) rfl (v_fieldAddr he rfl) ?_
      refine d_one 10 (by kernel_rfl) rfl ?_
      refine bring2 ?_
      refine o_st1 he rfl rfl u rfl ?_
      refine d_on (fun _ m => m.keeps (.cons _ (.cons _ (.cons _ (.refl _))))) ?_
      refine d_done (by kernel_rfl) ?_
      refine go 8 ?_
      refine bring2 ?_
      refine sx_drop ?_
      refine bring2 ?_
      refine sx_drop ?_
      refine bring4 ?_
      refine bring4 ?_
      refine bring4 ?_
      refine bring3 ?_
      refine bring4 ?_
      exact q_next5 (i + 1) (_) (_) (_) (out ++ [x] ++ [l[i]]) ⟨by omega, wF_tt hlt hw h17 h27 h42, (hF.append (.one hr)).append (.one ⟨_, rfl, B48, d48, rfl, hB48, hd48, hm48⟩)⟩ (by omega) rfl sb (by first | rfl | (simp only [List.length_append, List.length_singleton]; rfl) | simp only [List.length_append, List.length_singleton])
    ·refine go 9 ?_
     refine bring2 ?_
     refine sx_drop ?_
     refine bring4 ?_
     refine bring4 ?_
     refine bring4 ?_
     refine bring3 ?_
     refine bring4 ?_
     exact q_next5 (i + 1) (_) (_) (_) (out ++ [x]) ⟨by omega, wF_tf hlt hw h17 h27 h42, hF.append (.one hr)⟩ (by omega) rfl sb (by first | rfl | (simp only [List.length_append, List.length_singleton]; rfl) | simp only [List.length_append, List.length_singleton])
   ·refine go 3 ?_
    refine d_startH T.mixed ?_
    refine d_tv 0 rfl rfl (by kernel_rfl) rfl (.refl _) rfl (v_fieldAddr he rfl) ?_
    refine d_tv 1 rfl rfl (by kernel_rfl) rfl (.refl _) rfl (v_ld m4 he rfl rfl) ?_
    refine d_tv 2 rfl rfl (by kernel_rfl) rfl (.refl _) rfl (v_move rfl) ?_
    obtain ⟨b37, o37, w37, e37, c37, r37⟩ := RdA.at_ hA (i := i) hlt
    obtain ⟨q37, rfl, B37, d37, rfl, hB37, hd37, hm37⟩ := r37
    refine d_tv 3 rfl rfl (by kernel_rfl) rfl (.refl _) rfl (v_idx he rfl rfl e37 (i) (by omega) hlt) ?_
    refine d_tv 4 rfl rfl (by kernel_rfl) rfl (.refl _) rfl (v_fieldAddr he rfl) ?_
    refine d_tv 5 rfl rfl (by kernel_rfl) rfl (.refl _) rfl (v_ldI he rfl (c37 0 _ rfl)) ?_
    refine d_tv 6 rfl rfl (by kernel_rfl) rfl (.refl _) rfl (v_fieldAddr he rfl) ?_
    refine d_tv 7 rfl rfl (by kernel_rfl) rfl (.refl _) rfl (v_ld m3 he rfl rfl) ?_
    refine d_tv 8 rfl rfl (by kernel_rfl) rfl (.refl _) rfl (v_sneq rfl rfl) ?_
    refine d_done (by kernel_rfl) ?_
    refine go 1 ?_
    refine cb rfl (fun h42 p42 => ?_) (fun h42 p42 => ?_)
    ·refine bring1 ?_
     refine bring1 ?_
     refine d_start2 T.mixed ?_
     refine d_tv 0 rfl rfl (by kernel_rfl) rfl (.cons _ (.cons _ (.refl _))) rfl (v_fieldAddr he rfl) ?_
     refine d_tv 2 rfl rfl (by kernel_rfl) rfl (.cons _ (.cons _ (.refl _))) rfl (v_fieldAddr he rfl) ?_
     refine d_tv 3 rfl rfl (by kernel_rfl) rfl (.cons _ (.cons _ (.refl _))) rfl (v_ld m2 he rfl rfl) ?_
     refine d_tv 4 rfl rfl (by kernel_rfl) rfl (.cons _ (.cons _ (.refl _))) rfl (v_move rfl) ?_
     obtain ⟨b48, o48, w48, e48, c48, r48⟩ := RdA.at_ hA (i := i) hlt
     obtain ⟨q48, rfl, B48, d48, rfl, hB48, hd48, hm48⟩ := r48
     refine d_tv 5 rfl rfl (by kernel_rfl) rfl (.cons _ (.cons _ (.refl _))) rfl (v_idx he rfl rfl e48 (i) (by omega) hlt) ?_
     refine d_tv 6 rfl rfl (by kernel_rfl) rfl (.cons _ (.cons _ (.refl _))) rfl (v_ldIa he rfl c48 rfl) ?_
     refine d_two 1 7 (by kernel_rfl) rfl rfl ?_ ?_
     ·refine o_val rfl (v_ld m1 he rfl rfl) ?_
      refine d_on (fun _ m => m.keeps (.cons _ (.cons _ (.refl _)))) ?_
      refine d_one 7 (by kernel_rfl) rfl ?_
      refine o_buildSlice he he rfl rfl rfl rfl rfl rfl rfl (fun v50 => ?_)
      refine d_on (fun _ m => m.keeps (.cons _ (.cons _ (.cons _ (.refl _))))) ?_
      refine d_one 8 (by kernel_rfl) rfl ?_
      refine bring1 ?_
      refine o_appendO he he rfl rfl rfl rfl rfl (by omega) (by omega) rfl (fun v51 => ?_)
      refine sx_row1 (fun u => ?_)
      refine d_on (fun _ m => m.keeps (.cons _ (.cons _ (.cons _ (.refl _))))) ?_
      refine d_tv 9 rfl rfl (by kernel_rfl) rfl (.cons _ (.cons _ (.cons _ (.refl _)))) rfl (v_fieldAddr he rfl) ?_
      refine d_one 10 (by kernel_rfl) rfl ?_
      refine bring2 ?_
      refine o_st1 he rfl rfl u rfl ?_
      refine d_on (fun _ m => m.keeps (.cons _ (.cons _ (.cons _ (.refl _))))) ?_
      refine d_done (by kernel_rfl) ?_
      refine go 8 ?_
      refine bring2 ?_
      refine sx_drop ?_
      refine bring4 ?_
      refine bring4 ?_
      refine bring4 ?_
      refine bring3 ?_
      refine bring4 ?_
      exact q_next5 (i + 1) (_) (_) (_) (out ++ [l[i]]) ⟨by omega, wF_ft hlt hw (by rw [h17, h27]; rfl) h42, hF.append (.one ⟨_, rfl, B48, d48, rfl, hB48, hd48, hm48⟩)⟩ (by omega) rfl sb (by first | rfl | (simp only [List.length_append, List.length_singleton]; rfl) | simp only [List.length_append, List.length_singleton])
     ·refine o_buildSlice he he rfl rfl rfl rfl rfl rfl rfl (fun v50 => ?_)
      refine d_on (fun _ m => m.keeps (.cons _ (.cons _ (.cons _ (.refl _))))) ?_
      refine d_one 1 (by kernel_rfl) rfl ?_
      refine o_val rfl (v_ld m2 he rfl rfl) ?_
      refine d_on (fun _ m => m.keeps (.cons _ (.cons _ (.cons _ (.refl _))))) ?_
      refine d_one 8 (by kernel_rfl) rfl ?_
      refine bring1 ?_
      refine o_appendO he he rfl rfl rfl rfl rfl (by omega) (by omega) rfl (fun v51 => ?_)
      refine sx_row1 (fun u => ?_)
      refine d_on (fun _ m => m.keeps (.cons _ (.cons _ (.cons _ (.refl _))))) ?_
      refine d_tv 9 rfl rfl (by kernel_rfl) rfl (.cons _ (.cons _ (.cons _ (.refl _)))) rfl (v_fieldAddr he rfl) ?_
      refine d_one 10 (by kernel_rfl) rfl ?_
      refine bring2 ?_
      refine o_st1 he rfl rfl u rfl ?_
      refine d_on (fun _ m => m.keeps (.cons _ (.cons _ (.cons _ (.refl _))))) ?_
      refine d_done (by kernel_rfl) ?_
      refine go 8 ?_
      refine bring2 ?_
      refine sx_drop ?_
      refine bring4 ?_
      refine bring4 ?_
      refine bring4 ?_
      refine bring3 ?_
      refine bring4 ?_
      exact q_next5 (i + 1) (_) (_) (_) (out ++ [l[i]]) ⟨by omega, wF_ft hlt hw (by rw [h17, h27]; rfl) h42, hF.append (.one ⟨_, rfl, B48, d48, rfl, hB48, hd48, hm48⟩)⟩ (by omega) rfl sb (by first | rfl | (simp only [List.length_append, List.length_singleton]; rfl) | simp only [List.length_append, List.length_singleton])
    ·refine go 9 ?_
     exact q_next5 (i + 1) (_) (_) (_) (out) ⟨by omega, wF_ff hlt hw (by rw [h17, h27]; rfl) h42, hF⟩ (by omega) rfl sb (by first | rfl | (simp only [List.length_append, List.length_singleton]; rfl) | simp only [List.length_append, List.length_singleton])
  ·refine d_t 3 rfl rfl (by kernel_rfl) rfl (fun _ m => m.keeps (.refl _)) (y_no rfl rfl h17) ?_
   refine d_t 4 rfl rfl (by kernel_rfl) rfl (fun _ m => m.keeps (.refl _)) (y_no rfl rfl h17) ?_
   refine d_t 5 rfl rfl (by kernel_rfl) rfl (fun _ m => m.keeps (.refl _)) (y_no rfl rfl h17) ?_
   refine d_t 6 rfl rfl (by kernel_rfl) rfl (fun _ m => m.keeps (.refl _)) (y_no rfl rfl h17) ?_
   refine d_t 7 rfl rfl (by kernel_rfl) rfl (fun _ m => m.keeps (.refl _)) (y_no rfl rfl h17) ?_
   refine d_t 8 rfl rfl (by kernel_rfl) rfl (fun _ m => m.keeps (.refl _)) (y_no rfl rfl h17) ?_
   refine d_t 9 rfl rfl (by kernel_rfl) rfl (fun _ m => m.keeps (.refl _)) (y_no rfl rfl h17) ?_
   refine d_t 10 rfl rfl (by kernel_rfl) rfl (fun _ m => m.keeps (.refl _)) (y_no rfl rfl h17) ?_
   refine d_t 11 rfl rfl (by kernel_rfl) rfl (fun _ m => m.keeps (.refl _)) (y_no rfl rfl h17) ?_
   refine d_tv 12 rfl rfl (by kernel_rfl) rfl (.refl _) rfl (v_and_f h17 rfl) ?_
   refine d_done (by kernel_rfl) ?_
   refine go 1 ?_
   refine c_false rfl ?_
   refine go 3 ?_
   refine d_startH T.mixed ?_
   refine d_tv 0 rfl rfl (by kernel_rfl) rfl (.refl _) rfl (v_fieldAddr he rfl) ?_
   refine d_tv 1 rfl rfl (by kernel_rfl) rfl (.refl _) rfl (v_ld m4 he rfl rfl) ?_
   refine d_tv 2 rfl rfl (by kernel_rfl) rfl (.refl _) rfl (v_move rfl) ?_
   obtain ⟨b37, o37, w37, e37, c37, r37⟩ := RdA.at_ hA (i := i) hlt
   obtain ⟨q37, rfl, B37, d37, rfl, hB37, hd37, hm37⟩ := r37
   refine d_tv 3 rfl rfl (by kernel_rfl) rfl (.refl _) rfl (v_idx he rfl rfl e37 (i) (by omega) hlt) ?_
   refine d_tv 4 rfl rfl (by kernel_rfl) rfl (.refl _) rfl (v_fieldAddr he rfl) ?_
   refine d_tv 5 rfl rfl (by kernel_rfl) rfl (.refl _) rfl (v_ldI he rfl (c37 0 _ rfl)) ?_
   refine d_tv 6 rfl rfl (by kernel_rfl) rfl (.refl _) rfl (v_fieldAddr he rfl) ?_
   refine d_tv 7 rfl rfl (by kernel_rfl) rfl (.refl _) rfl (v_ld m3 he rfl rfl) ?_
   refine d_tv 8 rfl rfl (by kernel_rfl) rfl (.refl _) rfl (v_sneq rfl rfl) ?_
   refine d_done (by kernel_rfl) ?_
   refine go 1 ?_
   refine cb rfl (fun h42 p42 => ?_) (fun h42 p42 => ?_)
   ·refine bring1 ?_
    refine bring1 ?_
    refine d_start2 T.mixed ?_
    refine d_tv 0 rfl rfl (by kernel_rfl) rfl (.cons _ (.cons _ (.refl _))) rfl (v_fieldAddr he rfl) ?_
    refine d_tv 2 rfl rfl (by kernel_rfl) rfl (.cons _ (.cons _ (.refl _))) rfl (v_fieldAddr he rfl) ?_
    refine d_tv 3 rfl rfl (by kernel_rfl) rfl (.cons _ (.cons _ (.refl _))) rfl (v_ld m2 he rfl rfl) ?_
    refine d_tv 4 rfl rfl (by kernel_rfl) rfl (.cons _ (.cons _ (.refl _))) rfl (v_move rfl) ?_
    obtain ⟨b48, o48, w48, e48, c48, r48⟩ := RdA.at_ hA (i := i) hlt
    obtain ⟨q48, rfl, B48, d48, rfl, hB48, hd48, hm48⟩ := r48
    refine d_tv 5 rfl rfl (by kernel_rfl) rfl (.cons _ (.cons _ (.refl _))) rfl (v_idx he rfl rfl e48 (i) (by omega) hlt) ?_
    refine d_tv 6 rfl rfl (by kernel_rfl) rfl (.cons _ (.cons _ (.refl _))) rfl (v_ldIa he rfl c48 rfl) ?_
    refine d_two 1 7 (by kernel_rfl) rfl rfl ?_ ?_
    ·refine o_val rfl (v_ld m1 he rfl rfl) ?_
     refine d_on (fun _ m => m.keeps (.cons _ (.cons _ (.refl _)))) ?_
     refine d_one 7 (by kernel_rfl) rfl ?_
     refine o_buildSlice he he rfl rfl rfl rfl rfl rfl rfl (fun v50 => ?_)
     refine d_on (fun _ m => m.keeps (.cons _ (.cons _ (.cons _ (.refl _))))) ?_
     refine d_one 8 (by kernel_rfl) rfl ?_
     refine bring1 ?_
     refine o_appendO he he rfl rfl rfl rfl rfl (by omega) (by omega) rfl (fun v51 => ?_)
     refine sx_row1 (fun u => ?_)
     refine d_on (fun _ m => m.keeps (.cons _ (.cons _ (.cons _ (.refl _))))) ?_
     refine d_tv 9 rfl rfl (by kernel_rfl) rfl (.cons _ (.cons _ (.cons _ (.refl _)))) rfl (v_fieldAddr he rfl) ?_
     refine d_one 10 (by kernel_rfl) rfl ?_
     refine bring2 ?_
     refine o_st1 he rfl rfl u rfl ?_
     refine d_on (fun _ m => m.keeps (.cons _ (.cons _ (.cons _ (.refl _))))) ?_
     refine d_done (by kernel_rfl) ?_
     refine go 8 ?_
     refine bring2 ?_
     refine sx_drop ?_
     refine bring4 ?_
     refine bring4 ?_
     refine bring4 ?_
     refine bring3 ?_
     refine bring4 ?_
     exact q_next5 (i + 1) (_) (_) (_) (out ++ [l[i]]) ⟨by omega, wF_ft hlt hw (by rw [h17]; rfl) h42, hF.append (.one ⟨_, rfl, B48, d48, rfl, hB48, hd48, hm48⟩)⟩ (by omega) rfl sb (by first | rfl | (simp only [List.length_append, List.length_singleton]; rfl) | simp only [List.length_append, List.length_singleton])
    ·refine o_buildSlice he he rfl rfl rfl rfl rfl rfl rfl (fun v50 => ?_)
     refine d_on (fun _ m => m.keeps (.cons _ (.cons _ (.cons _ (.refl _))))) ?_
     refine d_one 1 (by kernel_rfl) rfl ?_
     refine o_val rfl (v_ld m2 he rfl rfl) ?_
     refine d_on (fun _ m => m.keeps (.cons _ (.cons _ (.cons _ (.refl _))))) ?_
     refine d_one 8 (by kernel_rfl) rfl ?_
     refine bring1 ?_
     refine o_appendO he he rfl rfl rfl rfl rfl (by omega) (by omega) rfl (fun v51 => ?_)
     refine sx_row1 (fun u => ?_)
     refine d_on (fun _ m => m.keeps (.cons _ (.cons _ (.cons _ (.refl _))))) ?_
     refine d_tv 9 rfl rfl (by kernel_rfl) rfl (.cons _ (.cons _ (.cons _ (.refl _)))) rfl (v_fieldAddr he rfl) ?_
     refine d_one 10 (by kernel_rfl) rfl ?_
     refine bring2 ?_
     refine o_st1 he rfl rfl u rfl ?_
     refine d_on (fun _ m => m.keeps (.cons _ (.cons _ (.cons _ (.refl _))))) ?_
     refine d_done (by kernel_rfl) ?_
     refine go 8 ?_
     refine bring2 ?_
     refine sx_drop ?_
     refine bring4 ?_
     refine bring4 ?_
     refine bring4 ?_
     refine bring3 ?_
     refine bring4 ?_
     exact q_next5 (i + 1) (_) (_) (_) (out ++ [l[i]]) ⟨by omega, wF_ft hlt hw (by rw [h17]; rfl) h42, hF.append (.one ⟨_, rfl, B48, d48, rfl, hB48, hd48, hm48⟩)⟩ (by omega) rfl sb (by first | rfl | (simp only [List.length_append, List.length_singleton]; rfl) | simp only [List.length_append, List.length_singleton])
   ·refine go 9 ?_
    exact q_next5 (i + 1) (_) (_) (_) (out) ⟨by omega, wF_ff hlt hw (by rw [h17]; rfl) h42, hF⟩ (by omega) rfl sb (by first | rfl | (simp only [List.length_append, List.length_singleton]; rfl) | simp only [List.length_append, List.length_singleton])
 ·have e : i = l.length := (by omega)
  subst e
  rw [List.take_length] at hw
  refine sx_row1 (fun u => ?_)
  refine go 12 ?_
  refine cb rfl (fun h54 p54 => ?_) (fun h54 p54 => ?_)
  ·refine go 5 ?_
   refine o_buildSlice he he rfl rfl rfl rfl rfl rfl rfl (fun v58 => ?_)
   refine go 1 ?_
   refine bring1 ?_
   refine o_appendO he he rfl rfl rfl rfl rfl (by omega) (by omega) rfl (fun v59 => ?_)
   refine sx_row1 (fun u => ?_)
   refine go 2 ?_
   refine bring2 ?_
   refine o_st1 he rfl rfl u rfl ?_
   refine go 6 ?_
   refine bring3 ?_
   refine o_stw _ he rfl rfl rfl rfl rfl (row_all u) ?_
   refine go 3 ?_
   refine fin1 rfl ⟨_, _, _, rfl, m0, .inr ⟨_, he, rfl, rfl⟩⟩ ?_
   refine sx_drop ?_
   refine sx_drop ?_
   refine bring1 ?_
   refine sx_drop ?_
   refine bring1 ?_
   refine sx_drop ?_
   refine bring1 ?_
   refine sx_drop ?_
   refine sx_pubrow (l := out ++ [x]) rfl (by simp) (hF.append (.one hr)) (fun I9 j9 R9 => ?_)
   exact q_i ⟨_, rfl, by rw [with_t hw h54]; exact R9⟩
  ·refine go 6 ?_
   refine bring2 ?_
   refine o_stw _ he rfl rfl rfl rfl rfl (row_all u) ?_
   refine go 3 ?_
   refine fin1 rfl ⟨_, _, _, rfl, m0, .inr ⟨_, he, rfl, rfl⟩⟩ ?_
   refine sx_drop ?_
   refine bring1 ?_
   refine sx_drop ?_
   refine bring1 ?_
   refine sx_drop ?_
   refine bring1 ?_
   refine sx_drop ?_
   refine sx_pubrow (l := out) rfl rfl hF (fun I9 j9 R9 => ?_)
   exact q_i ⟨_, rfl, by rw [with_f hw h54]; exact R9⟩

theorem ref10Note (I : IMap) (v : Value) (l : List Prp) (hv : RdS I v l) (hl : l.length ≤ 1000000) (s t : ByteArray) :
    FnI Tryz.prog 138 #[v, .string s, .string t] I (fun u J => RdS J u (withF Prp.key ⟨s, t⟩ l)) := by
 obtain ⟨A, c0, rfl, hA, hc, hm⟩ := hv
 refine enter Tryz.func138 Tryz.call138 rfl Tryz.ntmps138 rfl (fun w0 => ?_)
 refine go 7 ?_
 refine sx_nilrow 87 2 ?_
 refine go 15 ?_
 refine c_loop5 ((0 : Nat)) (_) ([]) (_) ([]) (fun i v xs b out => I)
  (fun i v xs b out => [(0, .slice A l.length c0), (1, .string s), (2, .string t), (7, v), (8, .bool b), (9, .int .i64 ((i : Nat) : Int))])
  (fun i v xs b out => [.row v 87 2 out.length xs])
  (fun i v xs b out => i ≤ l.length ∧ wF Prp.key ⟨s, t⟩ (l.take i) = (out, b) ∧ Flat I xs out)
  (fun i v xs b out => l.length - i) ⟨Nat.zero_le _, rfl, .nil⟩ rfl sb rfl ?_
 intro i v xs b out ⟨hi, hw, hF⟩
 have hol := w_le hw
 refine go 9 ?_
 refine cb rfl (fun h13 p13 => ?_) (fun h13 p13 => ?_)
 ·have hlt : i < l.length := by omega
  refine go 10 ?_
  refine sxb 18 rfl (fun h18 p18 => ?_) (fun h18 p18 => ?_)
  ·refine go 2 ?_
   obtain ⟨b21, o21, w21, e21, c21, r21⟩ := RdA.at_ hA (i := i) hlt
   obtain rfl := r21
   refine o_cons (o_yes rfl rfl h18 (o_val rfl (v_idx he rfl rfl e21 (i) (by omega) hlt) ?_))
   refine go 1 ?_
   refine o_cons (o_yes rfl rfl h18 (o_val rfl (v_ldI he rfl (c21 0 _ rfl)) ?_))
   refine go 5 ?_
   refine cb rfl (fun h26 p26 => ?_) (fun h26 p26 => ?_)
   ·refine go 6 ?_
    refine o_val rfl (v_build (pl := [(0, 1), (1, 1)]) he he rfl rfl) ?_
    refine go 1 ?_
    refine o_buildSlice he he rfl rfl rfl rfl rfl rfl rfl (fun v31 => ?_)
    refine go 1 ?_
    refine bring1 ?_
    refine o_appendO he he rfl rfl rfl rfl rfl (by omega) (by omega) rfl (fun v32 => ?_)
    refine go 11 ?_
    obtain ⟨b35, o35, w35, e35, c35, r35⟩ := RdA.at_ hA (i := i) hlt
    obtain rfl := r35
    refine o_v rfl (v_idx he rfl rfl e35 (i) (by omega) hlt) ?_
    refine go 1 ?_
    refine o_v rfl (v_ldI he rfl (c35 0 _ rfl)) ?_
    refine go 4 ?_
    refine cb rfl (fun h39 p39 => ?_) (fun h39 p39 => ?_)
    ·refine go 4 ?_
     obtain ⟨b43, o43, w43, e43, c43, r43⟩ := RdA.at_ hA (i := i) hlt
     obtain rfl := r43
     refine o_v rfl (v_idx he rfl rfl e43 (i) (by omega) hlt) ?_
     refine o_v rfl (v_ldIa he rfl c43 rfl) ?_
     refine go 1 ?_
     refine o_buildSlice he he rfl rfl rfl rfl rfl rfl rfl (fun v45 => ?_)
     refine go 1 ?_
     refine bring1 ?_
     refine o_appendO he he rfl rfl rfl rfl rfl (by omega) (by omega) rfl (fun v46 => ?_)
     refine go 10 ?_
     refine bring1 ?_
     refine sx_drop ?_
     refine bring1 ?_
     refine sx_drop ?_
     exact q_next5 (i + 1) (_) (_) (_) (out ++ [⟨s, t⟩] ++ [l[i]]) ⟨by omega, wF_tt hlt hw h18 h26 h39, (hF.append (.one rfl)).append (.one rfl)⟩ (by omega) rfl sb (by first | rfl | (simp only [List.length_append, List.length_singleton]; rfl) | simp only [List.length_append, List.length_singleton])
    ·refine go 9 ?_
     refine bring1 ?_
     refine sx_drop ?_
     exact q_next5 (i + 1) (_) (_) (_) (out ++ [⟨s, t⟩]) ⟨by omega, wF_tf hlt hw h18 h26 h39, hF.append (.one rfl)⟩ (by omega) rfl sb (by first | rfl | (simp only [List.length_append, List.length_singleton]; rfl) | simp only [List.length_append, List.length_singleton])
   ·refine go 6 ?_
    obtain ⟨b35, o35, w35, e35, c35, r35⟩ := RdA.at_ hA (i := i) hlt
    obtain rfl := r35
    refine o_v rfl (v_idx he rfl rfl e35 (i) (by omega) hlt) ?_
    refine go 1 ?_
    refine o_v rfl (v_ldI he rfl (c35 0 _ rfl)) ?_
    refine go 4 ?_
    refine cb rfl (fun h39 p39 => ?_) (fun h39 p39 => ?_)
    ·refine go 4 ?_
     obtain ⟨b43, o43, w43, e43, c43, r43⟩ := RdA.at_ hA (i := i) hlt
     obtain rfl := r43
     refine o_v rfl (v_idx he rfl rfl e43 (i) (by omega) hlt) ?_
     refine o_v rfl (v_ldIa he rfl c43 rfl) ?_
     refine go 1 ?_
     refine o_buildSlice he he rfl rfl rfl rfl rfl rfl rfl (fun v45 => ?_)
     refine go 1 ?_
     refine bring1 ?_
     refine o_appendO he he rfl rfl rfl rfl rfl (by omega) (by omega) rfl (fun v46 => ?_)
     refine go 10 ?_
     refine bring1 ?_
     refine sx_drop ?_
     exact q_next5 (i + 1) (_) (_) (_) (out ++ [l[i]]) ⟨by omega, wF_ft hlt hw (by rw [h18, h26]; rfl) h39, hF.append (.one rfl)⟩ (by omega) rfl sb (by first | rfl | (simp only [List.length_append, List.length_singleton]; rfl) | simp only [List.length_append, List.length_singleton])
    ·refine go 9 ?_
     exact q_next5 (i + 1) (_) (_) (_) (out) ⟨by omega, wF_ff hlt hw (by rw [h18, h26]; rfl) h39, hF⟩ (by omega) rfl sb (by first | rfl | (simp only [List.length_append, List.length_singleton]; rfl) | simp only [List.length_append, List.length_singleton])
  ·refine go 10 ?_
   refine c_false rfl ?_
   refine go 6 ?_
   obtain ⟨b35, o35, w35, e35, c35, r35⟩ := RdA.at_ hA (i := i) hlt
   obtain rfl := r35
   refine o_v rfl (v_idx he rfl rfl e35 (i) (by omega) hlt) ?_
   refine go 1 ?_
   refine o_v rfl (v_ldI he rfl (c35 0 _ rfl)) ?_
   refine go 4 ?_
   refine cb rfl (fun h39 p39 => ?_) (fun h39 p39 => ?_)
   ·refine go 4 ?_
    obtain ⟨b43, o43, w43, e43, c43, r43⟩ := RdA.at_ hA (i := i) hlt
    obtain rfl := r43
    refine o_v rfl (v_idx he rfl rfl e43 (i) (by omega) hlt) ?_
    refine o_v rfl (v_ldIa he rfl c43 rfl) ?_
    refine go 1 ?_
    refine o_buildSlice he he rfl rfl rfl rfl rfl rfl rfl (fun v45 => ?_)
    refine go 1 ?_
    refine bring1 ?_
    refine o_appendO he he rfl rfl rfl rfl rfl (by omega) (by omega) rfl (fun v46 => ?_)
    refine go 10 ?_
    refine bring1 ?_
    refine sx_drop ?_
    exact q_next5 (i + 1) (_) (_) (_) (out ++ [l[i]]) ⟨by omega, wF_ft hlt hw (by rw [h18]; rfl) h39, hF.append (.one rfl)⟩ (by omega) rfl sb (by first | rfl | (simp only [List.length_append, List.length_singleton]; rfl) | simp only [List.length_append, List.length_singleton])
   ·refine go 9 ?_
    exact q_next5 (i + 1) (_) (_) (_) (out) ⟨by omega, wF_ff hlt hw (by rw [h18]; rfl) h39, hF⟩ (by omega) rfl sb (by first | rfl | (simp only [List.length_append, List.length_singleton]; rfl) | simp only [List.length_append, List.length_singleton])
 ·have e : i = l.length := (by omega)
  subst e
  rw [List.take_length] at hw
  refine go 12 ?_
  refine cb rfl (fun h48 p48 => ?_) (fun h48 p48 => ?_)
  ·refine go 5 ?_
   refine o_val rfl (v_build (pl := [(0, 1), (1, 1)]) he he rfl rfl) ?_
   refine go 1 ?_
   refine o_buildSlice he he rfl rfl rfl rfl rfl rfl rfl (fun v53 => ?_)
   refine go 1 ?_
   refine bring1 ?_
   refine o_appendO he he rfl rfl rfl rfl rfl (by omega) (by omega) rfl (fun v54 => ?_)
   refine go 10 ?_
   refine fin1 rfl rfl ?_
   refine bring1 ?_
   refine sx_drop ?_
   refine sx_pubrow (l := out ++ [(⟨s, t⟩ : Prp)]) rfl (by simp) (hF.append (.one rfl)) (fun I9 j9 R9 => ?_)
   exact q_i (by rw [with_t hw h48]; exact R9)
  ·refine go 9 ?_
   refine fin1 rfl rfl ?_
   refine sx_pubrow (l := out) rfl rfl hF (fun I9 j9 R9 => ?_)
   exact q_i (by rw [with_f hw h48]; exact R9)

theorem ref10held (I : IMap) (v : Value) (l : List Part) (hv : RdS I v l) (s t : ByteArray) :
    FnV Tryz.prog 137 #[.agg #[v], .string s, .string t] I (.bool (heldF l s t)) := by
 obtain ⟨A, c0, rfl, hA, hc, hm⟩ := hv
 refine enter Tryz.func137 Tryz.call137 rfl Tryz.ntmps137 rfl (fun w0 => ?_)
 refine go 3 ?_
 refine o_box _ rfl rfl rfl (fun g3 => ?_)
 refine go 10 ?_
 refine c_loop (α := Nat) 0 (fun i => I)
  (fun i => [(1, .string s), (2, .string t), (3, .pointer (some ⟨g3, 0, none⟩)), (7, .int .i64 ((i : Nat) : Int))])
  (fun i => [.blk g3 39 [.slice A l.length c0]])
  (fun i => i ≤ l.length ∧ ∀ j x, j < i → l[j]? = some x → (fun x : Part => decide (x.into = s) && (decide (t = nil8) || decide (x.slot = t))) x = false)
  (fun i => l.length - i) ⟨Nat.zero_le _, fun j x hj => absurd hj (Nat.not_lt_zero j)⟩ rfl sb rfl ?_
 intro i ⟨hi, hn⟩
 refine go 10 ?_
 refine cb rfl (fun h12 p12 => ?_) (fun h12 p12 => ?_)
 ·have hlt : i < l.length := by omega
  refine go 5 ?_
  refine c_cut (I' := I) (L' := [(1, .string s), (2, .string t), (3, .pointer (some ⟨g3, 0, none⟩)), (7, .int .i64 ((i : Nat) : Int)), (36, .bool (decide (l[i].into = s) && (decide (t = nil8) || decide (l[i].slot = t))))]) (H' := [.blk g3 39 [.slice A l.length c0]]) ?_ ?_
  ·refine go 4 ?_
   obtain ⟨b18, o18, w18, e18, c18, r18⟩ := RdA.at_ hA (i := i) hlt
   obtain ⟨q18, rfl, B18, d18, rfl, hB18, hd18, hm18⟩ := r18
   refine o_v rfl (v_idx he rfl rfl e18 (i) (by omega) hlt) ?_
   refine go 1 ?_
   refine o_v rfl (v_ldI he rfl (c18 2 _ rfl)) ?_
   refine go 3 ?_
   refine sxb 23 rfl (fun h23 p23 => ?_) (fun h23 p23 => ?_)
   ·refine go 3 ?_
    refine sxb 26 rfl (fun h26 p26 => ?_) (fun h26 p26 => ?_)
    ·refine go 12 ?_
     exact q_cut ⟨rfl, rfl, rfl, rfl, (congrArg (fun b => some (Value.bool b)) (by simp only [h12, h23, h26, bS])), trivial⟩ rfl rfl
    ·refine go 3 ?_
     obtain ⟨b30, o30, w30, e30, c30, r30⟩ := RdA.at_ hA (i := i) hlt
     obtain ⟨q30, rfl, B30, d30, rfl, hB30, hd30, hm30⟩ := r30
     refine o_cons (o_yes rfl rfl h26 (o_val rfl (v_idx he rfl rfl e30 (i) (by omega) hlt) ?_))
     refine go 1 ?_
     refine o_cons (o_yes rfl rfl h26 (o_val rfl (v_ldI he rfl (c30 3 _ rfl)) ?_))
     refine go 6 ?_
     exact q_cut ⟨rfl, rfl, rfl, rfl, (congrArg (fun b => some (Value.bool b)) (by simp only [h12, h23, h26, bS])), trivial⟩ rfl rfl
   ·refine go 15 ?_
    exact q_cut ⟨rfl, rfl, rfl, rfl, (congrArg (fun b => some (Value.bool b)) (by simp only [h12, h23, bS])), trivial⟩ rfl rfl
  ·refine cb rfl (fun h36 p36 => ?_) (fun h36 p36 => ?_)
   ·refine go 11 ?_
    refine fin1 rfl rfl ?_
    exact q_v (congrArg Value.bool (List.any_eq_true.2 ⟨l[i], List.getElem_mem hlt, h36⟩).symm)
   ·refine go 9 ?_
    exact q_next (i + 1) ⟨by omega, idx_next (p := (fun x : Part => decide (x.into = s) && (decide (t = nil8) || decide (x.slot = t)))) hn hlt h36⟩ (by omega) rfl sb rfl
 ·refine go 11 ?_
  refine fin1 rfl rfl ?_
  exact q_v (congrArg Value.bool (any_none (fun j x hj => hn j x (by omega))).symm)

theorem ref10heldS (I : IMap) (v : Value) (l : List Part) (hv : RdS I v l) (e : Evt) (h : e.slot ≠ nil8) : FnV Tryz.prog 137 #[.agg #[v], .string e.into, .string e.slot] I (.bool (seatTaken l e)) := by
  have := ref10held I v l hv e.into e.slot
  rwa [held_seat l e h] at this
theorem ref10heldA (I : IMap) (v : Value) (l : List Part) (hv : RdS I v l) (s : ByteArray) : FnV Tryz.prog 137 #[.agg #[v], .string s, .string ⟨#[]⟩] I (.bool (holdsAny l s)) := by
  have := ref10held I v l hv s nil8
  rwa [held_any l s] at this

theorem ref10Step (I : IMap) (vc : Value) (c : List Kind) (hvc : RdS I vc c) (hsc : SmC c) (v : Value) (l : List Part) (hv : RdS I v l) (hsf : SmF l) (e : Evt) (hse : SmE e) (hV : validS c l = true) (hE : validE e = true) :
    FnI Tryz.prog 89 #[.agg #[vc], .agg #[v], .agg e.cells.toArray] I (fun u J => StIs J (applyF c l e) u) := by
 have hA0 : (!validS c l || !validE e) = false := by rw [hV, hE]; rfl
 obtain ⟨hsrt, hlen⟩ := validS_ord hV
 have hl6 : l.length ≤ 1000000 := by omega
 have hv0 := hv
 obtain ⟨A, c0, rfl, hA, hc, hm⟩ := hv
 refine enter Tryz.func89 Tryz.call89 rfl Tryz.ntmps89 rfl (fun w0 => ?_)
 refine go 3 ?_
 refine o_box _ rfl rfl rfl (fun g3 => ?_)
 refine go 1 ?_
 refine o_box _ rfl rfl rfl (fun g4 => ?_)
 refine go 1 ?_
 refine o_box _ rfl rfl rfl (fun g5 => ?_)
 refine go 1 ?_
 refine o_alloc he rfl (fun g6 => ?_)
 refine go 9 ?_
 refine o_callV (ref10At _ _ l hv0 e.part) rfl rfl ?_
 refine go 11 ?_
 refine cb rfl (fun h22 p22 => ?_) (fun h22 p22 => ?_)
 ·refine go 6 ?_
  refine o_callE (refFind _ vc c hvc e.kind) rfl rfl (fun v27 q27 => ?_)
  obtain ⟨vs13, rfl, s13, rfl, hs13⟩ := q27
  refine go 4 ?_
  refine o_alloc he rfl (fun g9 => ?_)
  refine go 1 ?_
  refine o_stw _ he rfl rfl rfl rfl rfl (Enc.one (α := Kind) (I := I) (x := (findK c e.kind).getD zKind) ⟨s13, rfl, hs13⟩) ?_
  refine go 10 ?_
  refine cb rfl (fun h31 p31 => ?_) (fun h31 p31 => ?_)
  ·have hS1 : (findP l e.part).isSome = true := (by rw [← find_idx]; exact h31)
   refine go 3 ?_
   refine o_val rfl (v_build (pl := [(0, 1)]) he he rfl rfl) ?_
   refine go 1 ?_
   refine bring1 ?_
   refine o_stw _ he rfl rfl rfl rfl rfl rfl ?_
   refine go 6 ?_
   refine fin2 rfl ⟨_, _, _, rfl, m0, .inr ⟨_, he, rfl, rfl⟩⟩ rfl ?_
   exact q_i (StIs.fail (by simp only [applyF, hA0, p22, applyMake, hS1, Bool.true_eq_false, decide_true, decide_false, Int.reduceEq, reduceIte, if_true, if_false, Bool.false_eq_true, not_true, not_false_eq_true, bS]))
  ·have hS1 : (findP l e.part).isSome = false := (by rw [← find_idx]; exact h31)
   refine go 9 ?_
   refine cb rfl (fun h34 p34 => ?_) (fun h34 p34 => ?_)
   ·refine go 3 ?_
    refine o_val rfl (v_build (pl := [(0, 1)]) he he rfl rfl) ?_
    refine go 1 ?_
    refine bring1 ?_
    refine o_stw _ he rfl rfl rfl rfl rfl rfl ?_
    refine go 6 ?_
    refine fin2 rfl ⟨_, _, _, rfl, m0, .inr ⟨_, he, rfl, rfl⟩⟩ rfl ?_
    exact q_i (StIs.fail (by simp only [applyF, hA0, p22, applyMake, hS1, p34, Bool.true_eq_false, decide_true, decide_false, Int.reduceEq, reduceIte, if_true, if_false, Bool.false_eq_true, not_true, not_false_eq_true, bS]))
   ·refine go 11 ?_
    refine cb rfl (fun h39 p39 => ?_) (fun h39 p39 => ?_)
    ·have hL : ((l.length : Nat) : Int) = 20000 := by omega
     refine go 3 ?_
     refine o_val rfl (v_build (pl := [(0, 1)]) he he rfl rfl) ?_
     refine go 1 ?_
     refine bring1 ?_
     refine o_stw _ he rfl rfl rfl rfl rfl rfl ?_
     refine go 6 ?_
     refine fin2 rfl ⟨_, _, _, rfl, m0, .inr ⟨_, he, rfl, rfl⟩⟩ rfl ?_
     exact q_i (StIs.fail (by simp only [applyF, hA0, p22, applyMake, hS1, p34, hL, Bool.true_eq_false, decide_true, decide_false, Int.reduceEq, reduceIte, if_true, if_false, Bool.false_eq_true, not_true, not_false_eq_true, bS]))
    ·have hL : ¬ ((l.length : Nat) : Int) = 20000 := by omega
     refine go 14 ?_
     refine o_val rfl (v_build (pl := [(0, 1), (1, 1), (2, 1), (3, 1), (4, 1), (5, 1), (6, 1), (7, 1), (8, 6)]) he he rfl rfl) ?_
     refine go 1 ?_
     refine o_call (ref10with _ _ l hv0 hl6 (newP e) none 0 ⟨_, rfl, RdS.nil'⟩) rfl rfl (fun v51 I51 j51 q51 => ?_)
     obtain ⟨w51, rfl, hw51⟩ := q51
     refine go 1 ?_
     refine bring1 ?_
     refine o_stw _ he rfl rfl rfl rfl rfl (by simp [hw51.one]) ?_
     refine go 5 ?_
     refine fin2 rfl ⟨_, _, _, rfl, m0, .inr ⟨_, he, rfl, rfl⟩⟩ rfl ?_
     rw [with_put (inc_of hsrt)] at hw51
     exact q_i (StIs.put (by simp only [applyF, hA0, p22, applyMake, hS1, p34, hL, Bool.true_eq_false, decide_true, decide_false, Int.reduceEq, reduceIte, if_true, if_false, Bool.false_eq_true, not_true, not_false_eq_true, bS]) hw51)
 ·refine go 9 ?_
  refine c_cut (I' := I) (L' := [(3, .pointer (some ⟨g3, 0, none⟩)), (4, .pointer (some ⟨g4, 0, none⟩)), (5, .pointer (some ⟨g5, 0, none⟩)), (6, .pointer (some ⟨g6, 0, none⟩)), (8, .int .i64 (idxF (fun p : Part => decide (p.name = e.part)) l)), (11, .int .i64 (idxF (fun p : Part => decide (p.name = (otherN e))) l))]) (H' := [.blk g6 39 [.slice none 0 0], .blk g5 43 e.cells, .blk g4 39 [.slice A l.length c0], .blk g3 24 [vc]]) ?_ ?_
  ·refine go 7 ?_
   refine cb rfl (fun h55 p55 => ?_) (fun h55 p55 => ?_)
   ·refine go 5 ?_
    refine o_callV (ref10At _ _ l hv0 e.into) rfl rfl ?_
    refine go 3 ?_
    exact q_cut ⟨rfl, rfl, rfl, rfl, rfl, (congrArg (fun s => some (Value.int .i64 (idxF (fun p : Part => decide (p.name = s)) l))) (by first | exact (if_pos p55).symm | exact (if_neg p55).symm)), trivial⟩ rfl rfl
   ·refine go 2 ?_
    exact q_cut ⟨rfl, rfl, rfl, rfl, rfl, (congrArg (fun s => some (Value.int .i64 (idxF (fun p : Part => decide (p.name = s)) l))) (by first | exact (if_pos p55).symm | exact (if_neg p55).symm)), trivial⟩ rfl rfl
  ·refine go 6 ?_
   refine sxb 62 rfl (fun h62 p62 => ?_) (fun h62 p62 => ?_)
   ·have hS1 : (findP l e.part).isSome = false := (by rw [← find_idx]; simpa using p62)
    refine go 5 ?_
    refine c_true rfl ?_
    refine go 3 ?_
    refine o_val rfl (v_build (pl := [(0, 1)]) he he rfl rfl) ?_
    refine go 1 ?_
    refine o_stw _ he rfl rfl rfl rfl rfl rfl ?_
    refine go 5 ?_
    refine fin2 rfl ⟨_, _, _, rfl, m0, .inr ⟨_, he, rfl, rfl⟩⟩ rfl ?_
    exact q_i (StIs.fail (by simp only [applyF, hA0, p22, applyRest, hS1, Bool.true_eq_false, decide_true, decide_false, Int.reduceEq, reduceIte, if_true, if_false, Bool.false_eq_true, not_true, not_false_eq_true, bS]))
   ·have hS1 : (findP l e.part).isSome = true := (by rw [← find_idx]; simpa using p62)
    refine go 5 ?_
    refine cb rfl (fun h65 p65 => ?_) (fun h65 p65 => ?_)
    ·have hO : (otherO l e).isSome = false := (by rw [otherO_eq, ← find_idx]; simpa using p65)
     refine go 3 ?_
     refine o_val rfl (v_build (pl := [(0, 1)]) he he rfl rfl) ?_
     refine go 1 ?_
     refine o_stw _ he rfl rfl rfl rfl rfl rfl ?_
     refine go 5 ?_
     refine fin2 rfl ⟨_, _, _, rfl, m0, .inr ⟨_, he, rfl, rfl⟩⟩ rfl ?_
     exact q_i (StIs.fail (by simp only [applyF, hA0, p22, applyRest, hS1, hO, Bool.true_eq_false, decide_true, decide_false, Int.reduceEq, reduceIte, if_true, if_false, Bool.false_eq_true, not_true, not_false_eq_true, bS]))
    ·have hO : (otherO l e).isSome = true := (by rw [otherO_eq, ← find_idx]; simpa using p65)
     refine go 7 ?_
     obtain ⟨i1, hi1, ei1, hF1⟩ := (idxF_find (fun p : Part => decide (p.name = e.part)) l).resolve_left (fun h => by omega)
     have hP : partP l e = l[i1] := by rw [partP, show findP l e.part = _ from hF1]; rfl
     have hmem : partP l e ∈ l := by rw [hP]; exact List.getElem_mem hi1
     obtain ⟨b70, o70, w70, e70, c70, r70⟩ := RdA.at_ hA (i := i1) hi1
     rw [← hP] at r70
     obtain ⟨s12, rfl, hs12⟩ := r70
     refine o_v rfl (v_idx he rfl rfl e70 (i1) ei1 hi1) ?_
     refine o_v rfl (v_ldIa he rfl c70 rfl) ?_
     refine go 1 ?_
     refine o_alloc he rfl (fun g12 => ?_)
     refine go 1 ?_
     refine o_stw _ he rfl rfl rfl rfl rfl (Enc.one (α := Part) (I := I) (x := partP l e) ⟨s12, rfl, hs12⟩) ?_
     refine go 7 ?_
     obtain ⟨i2, hi2, ei2, hF2⟩ := (idxF_find (fun p : Part => decide (p.name = otherN e)) l).resolve_left (fun h => by omega)
     have hQ : otherP l e = l[i2] := by rw [otherP, otherO_eq, show findP l (otherN e) = _ from hF2]; rfl
     obtain ⟨b75, o75, w75, e75, c75, r75⟩ := RdA.at_ hA (i := i2) hi2
     rw [← hQ] at r75
     obtain ⟨s13, rfl, hs13⟩ := r75
     refine o_v rfl (v_idx he rfl rfl e75 (i2) ei2 hi2) ?_
     refine o_v rfl (v_ldIa he rfl c75 rfl) ?_
     refine go 1 ?_
     refine o_alloc he rfl (fun g13 => ?_)
     refine go 1 ?_
     refine o_stw _ he rfl rfl rfl rfl rfl (Enc.one (α := Part) (I := I) (x := otherP l e) ⟨s13, rfl, hs13⟩) ?_
     refine go 8 ?_
     refine sxb 79 rfl (fun h79 p79 => ?_) (fun h79 p79 => ?_)
     ·refine go 5 ?_
      refine c_true rfl ?_
      refine go 3 ?_
      refine o_val rfl (v_build (pl := [(0, 1)]) he he rfl rfl) ?_
      refine go 1 ?_
      refine bring2 ?_
      refine o_stw _ he rfl rfl rfl rfl rfl rfl ?_
      refine go 5 ?_
      refine fin2 rfl ⟨_, _, _, rfl, m0, .inr ⟨_, he, rfl, rfl⟩⟩ rfl ?_
      exact q_i (StIs.fail (by simp only [applyF, hA0, p22, applyRest, hS1, hO, h62, h65, h79, Bool.true_eq_false, decide_true, decide_false, Int.reduceEq, reduceIte, if_true, if_false, Bool.false_eq_true, not_true, not_false_eq_true, bS]))
     ·refine go 5 ?_
      refine cb rfl (fun h82 p82 => ?_) (fun h82 p82 => ?_)
      ·refine go 3 ?_
       refine o_val rfl (v_build (pl := [(0, 1)]) he he rfl rfl) ?_
       refine go 1 ?_
       refine bring2 ?_
       refine o_stw _ he rfl rfl rfl rfl rfl rfl ?_
       refine go 5 ?_
       refine fin2 rfl ⟨_, _, _, rfl, m0, .inr ⟨_, he, rfl, rfl⟩⟩ rfl ?_
       exact q_i (StIs.fail (by simp only [applyF, hA0, p22, applyRest, hS1, hO, h62, h65, h79, h82, Bool.true_eq_false, decide_true, decide_false, Int.reduceEq, reduceIte, if_true, if_false, Bool.false_eq_true, not_true, not_false_eq_true, bS]))
      ·refine go 8 ?_
       refine o_callE (refFind _ vc c hvc (partP l e).kind) rfl rfl (fun v88 q88 => ?_)
       obtain ⟨vs14, rfl, s14, rfl, hs14⟩ := q88
       refine go 4 ?_
       refine o_alloc he rfl (fun g14 => ?_)
       refine go 1 ?_
       refine o_stw _ he rfl rfl rfl rfl rfl (Enc.one (α := Kind) (I := I) (x := kindP c l e) ⟨s14, rfl, hs14⟩) ?_
       refine go 4 ?_
       refine c_cutx3 (Ix := (fun J p2 s2 => J)) (Lx := (fun J p2 s2 => [(4, .pointer (some ⟨g4, 0, none⟩)), (6, .pointer (some ⟨g6, 0, none⟩)), (12, .pointer (some ⟨g12, 0, none⟩))])) (Hx := (fun J p2 s2 => [.blk g12 49 (p2.cells s2), .blk g6 39 [.slice none 0 0], .blk g4 39 [.slice A l.length c0]])) (p := (fun J p2 s2 => ILe I J ∧ RdS J s2 p2.props ∧ applyF c l e = putR l p2)) ?_ ?_
       ·refine go 13 ?_
        refine cb rfl (fun h93 p93 => ?_) (fun h93 p93 => ?_)
        ·have hsl := fit_slot hE p93
         refine go 6 ?_
         refine sxb 97 rfl (fun h97 p97 => ?_) (fun h97 p97 => ?_)
         ·refine go 12 ?_
          refine c_true rfl ?_
          refine go 3 ?_
          refine o_val rfl (v_build (pl := [(0, 1)]) he he rfl rfl) ?_
          refine go 1 ?_
          refine bring3 ?_
          refine o_stw _ he rfl rfl rfl rfl rfl rfl ?_
          refine go 7 ?_
          refine fin2 rfl ⟨_, _, _, rfl, m0, .inr ⟨_, he, rfl, rfl⟩⟩ rfl ?_
          exact q_i (StIs.fail (by simp only [applyF, hA0, p22, applyRest, hS1, hO, h82, applyOp, applyFit, applyRemove, applyRun, applyNote, applyScrap, kindP, noted, p22, p62, p65, p79, p82, p93, p97, h62, h65, h79, h82, h93, h97, Bool.true_eq_false, decide_true, decide_false, Int.reduceEq, reduceIte, if_true, if_false, Bool.false_eq_true, not_true, not_false_eq_true, bS]))
         ·refine go 8 ?_
          refine o_yes rfl rfl h97 (o_callV (ref08Takes _ vc c hvc (otherP l e).kind e.slot (partP l e).kind) rfl rfl ?_)
          refine go 4 ?_
          refine cb rfl (fun h107 p107 => ?_) (fun h107 p107 => ?_)
          ·refine go 3 ?_
           refine o_val rfl (v_build (pl := [(0, 1)]) he he rfl rfl) ?_
           refine go 1 ?_
           refine bring3 ?_
           refine o_stw _ he rfl rfl rfl rfl rfl rfl ?_
           refine go 7 ?_
           refine fin2 rfl ⟨_, _, _, rfl, m0, .inr ⟨_, he, rfl, rfl⟩⟩ rfl ?_
           exact q_i (StIs.fail (by simp only [applyF, hA0, p22, applyRest, hS1, hO, h82, applyOp, applyFit, applyRemove, applyRun, applyNote, applyScrap, kindP, noted, p22, p62, p65, p79, p82, p93, p97, p107, h62, h65, h79, h82, h93, h97, h107, Bool.true_eq_false, decide_true, decide_false, Int.reduceEq, reduceIte, if_true, if_false, Bool.false_eq_true, not_true, not_false_eq_true, bS]))
          ·refine go 10 ?_
           refine cb rfl (fun h111 p111 => ?_) (fun h111 p111 => ?_)
           ·refine go 3 ?_
            refine o_val rfl (v_build (pl := [(0, 1)]) he he rfl rfl) ?_
            refine go 1 ?_
            refine bring3 ?_
            refine o_stw _ he rfl rfl rfl rfl rfl rfl ?_
            refine go 7 ?_
            refine fin2 rfl ⟨_, _, _, rfl, m0, .inr ⟨_, he, rfl, rfl⟩⟩ rfl ?_
            exact q_i (StIs.fail (by simp only [applyF, hA0, p22, applyRest, hS1, hO, h82, applyOp, applyFit, applyRemove, applyRun, applyNote, applyScrap, kindP, noted, p22, p62, p65, p79, p82, p93, p97, p107, p111, h62, h65, h79, h82, h93, h97, h107, h111, Bool.true_eq_false, decide_true, decide_false, Int.reduceEq, reduceIte, if_true, if_false, Bool.false_eq_true, not_true, not_false_eq_true, bS]))
           ·refine go 11 ?_
            refine o_callV (ref10heldS _ _ l hv0 e hsl) rfl rfl ?_
            refine go 2 ?_
            refine cb rfl (fun h118 p118 => ?_) (fun h118 p118 => ?_)
            ·refine go 3 ?_
             refine o_val rfl (v_build (pl := [(0, 1)]) he he rfl rfl) ?_
             refine go 1 ?_
             refine bring3 ?_
             refine o_stw _ he rfl rfl rfl rfl rfl rfl ?_
             refine go 7 ?_
             refine fin2 rfl ⟨_, _, _, rfl, m0, .inr ⟨_, he, rfl, rfl⟩⟩ rfl ?_
             exact q_i (StIs.fail (by simp only [applyF, hA0, p22, applyRest, hS1, hO, h82, applyOp, applyFit, applyRemove, applyRun, applyNote, applyScrap, kindP, noted, p22, p62, p65, p79, p82, p93, p97, p107, p111, p118, h62, h65, h79, h82, h93, h97, h107, h111, h118, Bool.true_eq_false, decide_true, decide_false, Int.reduceEq, reduceIte, if_true, if_false, Bool.false_eq_true, not_true, not_false_eq_true, bS]))
            ·refine go 8 ?_
             refine bring2 ?_
             refine o_st1 he rfl rfl rfl rfl ?_
             refine go 7 ?_
             refine o_st1 he rfl rfl rfl rfl ?_
             refine go 3 ?_
             refine bring1 ?_
             refine sx_drop ?_
             refine bring1 ?_
             refine sx_drop ?_
             refine bring2 ?_
             refine sx_drop ?_
             refine bring3 ?_
             refine sx_drop ?_
             exact q_cutx3 (_) ({ partP l e with into := e.into, slot := e.slot }) (_) ⟨ILe.refl _, hs12, by simp only [applyF, hA0, p22, applyRest, hS1, hO, h82, applyOp, applyFit, applyRemove, applyRun, applyNote, applyScrap, kindP, noted, overhauled, p22, p62, p65, p79, p82, p93, p97, p107, p111, p118, h62, h65, h79, h82, h93, h97, h107, h111, h118, Bool.true_eq_false, decide_true, decide_false, Int.reduceEq, reduceIte, if_true, if_false, Bool.false_eq_true, not_true, not_false_eq_true, bS]⟩ sb rfl rfl
        ·refine go 6 ?_
         refine cb rfl (fun h126 p126 => ?_) (fun h126 p126 => ?_)
         ·refine go 8 ?_
          refine cb rfl (fun h130 p130 => ?_) (fun h130 p130 => ?_)
          ·refine go 3 ?_
           refine o_val rfl (v_build (pl := [(0, 1)]) he he rfl rfl) ?_
           refine go 1 ?_
           refine bring3 ?_
           refine o_stw _ he rfl rfl rfl rfl rfl rfl ?_
           refine go 7 ?_
           refine fin2 rfl ⟨_, _, _, rfl, m0, .inr ⟨_, he, rfl, rfl⟩⟩ rfl ?_
           exact q_i (StIs.fail (by simp only [applyF, hA0, p22, applyRest, hS1, hO, h82, applyOp, applyFit, applyRemove, applyRun, applyNote, applyScrap, kindP, noted, p22, p62, p65, p79, p82, p93, p126, p130, h62, h65, h79, h82, h93, h126, h130, Bool.true_eq_false, decide_true, decide_false, Int.reduceEq, reduceIte, if_true, if_false, Bool.false_eq_true, not_true, not_false_eq_true, bS]))
          ·refine go 6 ?_
           refine bring2 ?_
           refine o_st1 he rfl rfl rfl rfl ?_
           refine go 5 ?_
           refine o_st1 he rfl rfl rfl rfl ?_
           refine go 3 ?_
           refine bring1 ?_
           refine sx_drop ?_
           refine bring1 ?_
           refine sx_drop ?_
           refine bring2 ?_
           refine sx_drop ?_
           refine bring3 ?_
           refine sx_drop ?_
           exact q_cutx3 (_) ({ partP l e with into := nil8, slot := nil8 }) (_) ⟨ILe.refl _, hs12, by simp only [applyF, hA0, p22, applyRest, hS1, hO, h82, applyOp, applyFit, applyRemove, applyRun, applyNote, applyScrap, kindP, noted, overhauled, p22, p62, p65, p79, p82, p93, p126, p130, h62, h65, h79, h82, h93, h126, h130, Bool.true_eq_false, decide_true, decide_false, Int.reduceEq, reduceIte, if_true, if_false, Bool.false_eq_true, not_true, not_false_eq_true, bS]⟩ sb rfl rfl
         ·refine go 6 ?_
          refine cb rfl (fun h134 p134 => ?_) (fun h134 p134 => ?_)
          ·refine go 7 ?_
           refine cb rfl (fun h138 p138 => ?_) (fun h138 p138 => ?_)
           ·refine go 3 ?_
            refine o_val rfl (v_build (pl := [(0, 1)]) he he rfl rfl) ?_
            refine go 1 ?_
            refine bring3 ?_
            refine o_stw _ he rfl rfl rfl rfl rfl rfl ?_
            refine go 6 ?_
            refine fin2 rfl ⟨_, _, _, rfl, m0, .inr ⟨_, he, rfl, rfl⟩⟩ rfl ?_
            exact q_i (StIs.fail (by simp only [applyF, hA0, p22, applyRest, hS1, hO, h82, applyOp, applyFit, applyRemove, applyRun, applyNote, applyScrap, kindP, noted, p22, p62, p65, p79, p82, p93, p126, p134, p138, h62, h65, h79, h82, h93, h126, h134, h138, Bool.true_eq_false, decide_true, decide_false, Int.reduceEq, reduceIte, if_true, if_false, Bool.false_eq_true, not_true, not_false_eq_true, bS]))
           ·refine go 3 ?_
            refine sx_drop ?_
            refine sx_drop ?_
            refine bring2 ?_
            refine sx_drop ?_
            refine bring3 ?_
            refine sx_drop ?_
            exact q_cutx3 (_) (partP l e) (_) ⟨ILe.refl _, hs12, by simp only [applyF, hA0, p22, applyRest, hS1, hO, h82, applyOp, applyFit, applyRemove, applyRun, applyNote, applyScrap, kindP, noted, overhauled, p22, p62, p65, p79, p82, p93, p126, p134, p138, h62, h65, h79, h82, h93, h126, h134, h138, Bool.true_eq_false, decide_true, decide_false, Int.reduceEq, reduceIte, if_true, if_false, Bool.false_eq_true, not_true, not_false_eq_true, bS]⟩ sb rfl rfl
          ·refine go 6 ?_
           refine cb rfl (fun h140 p140 => ?_) (fun h140 p140 => ?_)
           ·refine go 6 ?_
            refine o_v rfl (v_imax rfl rfl) ?_
            refine go 2 ?_
            refine bring2 ?_
            refine o_st1 he rfl rfl rfl rfl ?_
            refine go 4 ?_
            refine o_val rfl (v_build (pl := [(0, 2), (2, 2), (4, 2)]) he he rfl rfl) ?_
            refine go 2 ?_
            refine o_st _ _ he rfl rfl rfl rfl rfl rfl rfl ?_
            refine go 3 ?_
            refine bring1 ?_
            refine sx_drop ?_
            refine bring1 ?_
            refine sx_drop ?_
            refine bring2 ?_
            refine sx_drop ?_
            refine bring3 ?_
            refine sx_drop ?_
            exact q_cutx3 (_) (overhauled e (partP l e)) (_) ⟨ILe.refl _, hs12, by simp only [applyF, hA0, p22, applyRest, hS1, hO, h82, applyOp, applyFit, applyRemove, applyRun, applyNote, applyScrap, kindP, noted, overhauled, p22, p62, p65, p79, p82, p93, p126, p134, p140, h62, h65, h79, h82, h93, h126, h134, h140, Bool.true_eq_false, decide_true, decide_false, Int.reduceEq, reduceIte, if_true, if_false, Bool.false_eq_true, not_true, not_false_eq_true, bS]⟩ sb rfl rfl
           ·refine go 6 ?_
            refine cb rfl (fun h150 p150 => ?_) (fun h150 p150 => ?_)
            ·refine go 9 ?_
             refine o_call (ref10Note _ s12 (partP l e).props hs12 (by have := (validS_part hV hmem).2; omega) e.key e.value) rfl rfl (fun v158 I158 j158 q158 => ?_)
             have R158 : RdS I158 v158 (putL Prp.key (partP l e).props ⟨e.key, e.value⟩) := with_put (nm := Prp.key) (x := ⟨e.key, e.value⟩) (inc_of (validS_part hV hmem).1) ▸ q158
             obtain ⟨B158, d158, rfl, h158⟩ := R158
             refine go 2 ?_
             refine bring2 ?_
             refine o_st1 he rfl rfl rfl rfl ?_
             refine go 10 ?_
             refine cb rfl (fun h163 p163 => ?_) (fun h163 p163 => ?_)
             ·refine go 3 ?_
              refine o_val rfl (v_build (pl := [(0, 1)]) he he rfl rfl) ?_
              refine go 1 ?_
              refine bring3 ?_
              refine o_stw _ he rfl rfl rfl rfl rfl rfl ?_
              refine go 6 ?_
              refine fin2 rfl ⟨_, _, _, rfl, m0, .inr ⟨_, he, rfl, rfl⟩⟩ rfl ?_
              exact q_i (StIs.fail (by simp only [applyF, hA0, p22, applyRest, hS1, hO, h82, applyOp, applyFit, applyRemove, applyRun, applyNote, applyScrap, kindP, noted, p22, p62, p65, p79, p82, p93, p126, p134, p140, p150, p163, h62, h65, h79, h82, h93, h126, h134, h140, h150, h163, Bool.true_eq_false, decide_true, decide_false, Int.reduceEq, reduceIte, if_true, if_false, Bool.false_eq_true, not_true, not_false_eq_true, bS]))
             ·refine go 3 ?_
              refine bring1 ?_
              refine sx_drop ?_
              refine bring1 ?_
              refine sx_drop ?_
              refine bring2 ?_
              refine sx_drop ?_
              refine bring3 ?_
              refine sx_drop ?_
              exact q_cutx3 (_) (noted e (partP l e)) (_) ⟨j158, ⟨B158, d158, rfl, h158⟩, by simp only [applyF, hA0, p22, applyRest, hS1, hO, h82, applyOp, applyFit, applyRemove, applyRun, applyNote, applyScrap, kindP, noted, overhauled, p22, p62, p65, p79, p82, p93, p126, p134, p140, p150, p163, h62, h65, h79, h82, h93, h126, h134, h140, h150, h163, Bool.true_eq_false, decide_true, decide_false, Int.reduceEq, reduceIte, if_true, if_false, Bool.false_eq_true, not_true, not_false_eq_true, bS]⟩ sb rfl rfl
            ·refine go 6 ?_
             refine cb rfl (fun h165 p165 => ?_) (fun h165 p165 => ?_)
             ·refine go 7 ?_
              refine sxb 170 rfl (fun h170 p170 => ?_) (fun h170 p170 => ?_)
              ·refine go 7 ?_
               refine c_true rfl ?_
               refine go 3 ?_
               refine o_val rfl (v_build (pl := [(0, 1)]) he he rfl rfl) ?_
               refine go 1 ?_
               refine bring3 ?_
               refine o_stw _ he rfl rfl rfl rfl rfl rfl ?_
               refine go 7 ?_
               refine fin2 rfl ⟨_, _, _, rfl, m0, .inr ⟨_, he, rfl, rfl⟩⟩ rfl ?_
               exact q_i (StIs.fail (by simp only [applyF, hA0, p22, applyRest, hS1, hO, h82, applyOp, applyFit, applyRemove, applyRun, applyNote, applyScrap, kindP, noted, p22, p62, p65, p79, p82, p93, p126, p134, p140, p150, p165, p170, h62, h65, h79, h82, h93, h126, h134, h140, h150, h165, h170, Bool.true_eq_false, decide_true, decide_false, Int.reduceEq, reduceIte, if_true, if_false, Bool.false_eq_true, not_true, not_false_eq_true, bS]))
              ·refine go 4 ?_
               refine o_yes rfl rfl h170 (o_callV (ref10heldA _ _ l hv0 (partP l e).name) rfl rfl ?_)
               refine go 3 ?_
               refine cb rfl (fun h175 p175 => ?_) (fun h175 p175 => ?_)
               ·refine go 3 ?_
                refine o_val rfl (v_build (pl := [(0, 1)]) he he rfl rfl) ?_
                refine go 1 ?_
                refine bring3 ?_
                refine o_stw _ he rfl rfl rfl rfl rfl rfl ?_
                refine go 7 ?_
                refine fin2 rfl ⟨_, _, _, rfl, m0, .inr ⟨_, he, rfl, rfl⟩⟩ rfl ?_
                exact q_i (StIs.fail (by simp only [applyF, hA0, p22, applyRest, hS1, hO, h82, applyOp, applyFit, applyRemove, applyRun, applyNote, applyScrap, kindP, noted, p22, p62, p65, p79, p82, p93, p126, p134, p140, p150, p165, p170, p175, h62, h65, h79, h82, h93, h126, h134, h140, h150, h165, h170, h175, Bool.true_eq_false, decide_true, decide_false, Int.reduceEq, reduceIte, if_true, if_false, Bool.false_eq_true, not_true, not_false_eq_true, bS]))
               ·refine go 5 ?_
                refine bring2 ?_
                refine o_st1 he rfl rfl rfl rfl ?_
                refine go 3 ?_
                refine bring1 ?_
                refine sx_drop ?_
                refine bring1 ?_
                refine sx_drop ?_
                refine bring2 ?_
                refine sx_drop ?_
                refine bring3 ?_
                refine sx_drop ?_
                exact q_cutx3 (_) ({ partP l e with scrapped := true }) (_) ⟨ILe.refl _, hs12, by simp only [applyF, hA0, p22, applyRest, hS1, hO, h82, applyOp, applyFit, applyRemove, applyRun, applyNote, applyScrap, kindP, noted, overhauled, p22, p62, p65, p79, p82, p93, p126, p134, p140, p150, p165, p170, p175, h62, h65, h79, h82, h93, h126, h134, h140, h150, h165, h170, h175, Bool.true_eq_false, decide_true, decide_false, Int.reduceEq, reduceIte, if_true, if_false, Bool.false_eq_true, not_true, not_false_eq_true, bS]⟩ sb rfl rfl
             ·refine go 3 ?_
              refine sx_drop ?_
              refine sx_drop ?_
              refine bring2 ?_
              refine sx_drop ?_
              refine bring3 ?_
              refine sx_drop ?_
              exact q_cutx3 (_) (partP l e) (_) ⟨ILe.refl _, hs12, by simp only [applyF, hA0, p22, applyRest, hS1, hO, h82, applyOp, applyFit, applyRemove, applyRun, applyNote, applyScrap, kindP, noted, overhauled, p22, p62, p65, p79, p82, p93, p126, p134, p140, p150, p165, h62, h65, h79, h82, h93, h126, h134, h140, h150, h165, Bool.true_eq_false, decide_true, decide_false, Int.reduceEq, reduceIte, if_true, if_false, Bool.false_eq_true, not_true, not_false_eq_true, bS]⟩ sb rfl rfl
       ·rintro J p2 s2 ⟨hJ, ⟨B2, d2, rfl, hB2⟩, hA2⟩
        refine go 5 ?_
        refine o_call (ref10with _ _ l (hv0.le hJ) hl6 p2 B2 d2 ⟨_, rfl, B2, d2, rfl, hB2⟩) rfl rfl (fun v180 I180 j180 q180 => ?_)
        obtain ⟨w180, rfl, hw180⟩ := q180
        refine go 1 ?_
        refine bring1 ?_
        refine o_stw _ he rfl rfl rfl rfl rfl (by simp [hw180.one]) ?_
        refine go 4 ?_
        refine fin2 rfl ⟨_, _, _, rfl, m0, .inr ⟨_, he, rfl, rfl⟩⟩ rfl ?_
        rw [with_put (inc_of hsrt)] at hw180
        exact q_i (StIs.put hA2 hw180)

theorem ref10Apply (I : IMap) (vc : Value) (c : List Kind) (hvc : RdS I vc c) (hsc : SmC c) (v : Value) (l : List Part) (hv : RdS I v l) (hsf : SmF l) (e : Evt) (hse : SmE e) :
    FnI Tryz.prog 47 #[.agg #[vc], .agg #[v], .agg e.cells.toArray] I (fun u J => StIs J (applyF c l e) u) := by
 refine enter Tryz.func47 Tryz.call47 rfl Tryz.ntmps47 rfl (fun w0 => ?_)
 refine go 3 ?_
 refine o_box _ rfl rfl rfl (fun g3 => ?_)
 refine go 1 ?_
 refine o_box _ rfl rfl rfl (fun g4 => ?_)
 refine go 1 ?_
 refine o_box _ rfl rfl rfl (fun g5 => ?_)
 refine go 1 ?_
 refine o_alloc he rfl (fun g6 => ?_)
 refine go 5 ?_
 refine c_cut (I' := I) (L' := [(3, .pointer (some ⟨g3, 0, none⟩)), (4, .pointer (some ⟨g4, 0, none⟩)), (5, .pointer (some ⟨g5, 0, none⟩)), (6, .pointer (some ⟨g6, 0, none⟩)), (16, .bool (!validS c l || !validE e))]) (H' := [.blk g6 39 [.slice none 0 0], .blk g5 43 e.cells, .blk g4 39 [v], .blk g3 24 [vc]]) ?_ ?_
 ·refine go 4 ?_
  refine o_callV (ref10Valid _ vc c hvc hsc _ l hv hsf) rfl rfl ?_
  refine go 2 ?_
  refine sxb 12 rfl (fun h12 p12 => ?_) (fun h12 p12 => ?_)
  ·refine go 6 ?_
   exact q_cut ⟨rfl, rfl, rfl, rfl, (congrArg (fun b => some (Value.bool b)) (by simp only [h12, bS])), trivial⟩ rfl rfl
  ·refine go 2 ?_
   refine o_yes rfl rfl h12 (o_callV (ref09Valid _ e hse) rfl rfl ?_)
   refine go 4 ?_
   exact q_cut ⟨rfl, rfl, rfl, rfl, (congrArg (fun b => some (Value.bool b)) (by simp only [h12, bS])), trivial⟩ rfl rfl
 ·refine cb rfl (fun h16 p16 => ?_) (fun h16 p16 => ?_)
  ·refine go 3 ?_
   refine o_val rfl (v_build (pl := [(0, 1)]) he he rfl rfl) ?_
   refine go 1 ?_
   refine o_stw _ he rfl rfl rfl rfl rfl rfl ?_
   refine go 5 ?_
   refine fin2 rfl ⟨_, _, _, rfl, m0, .inr ⟨_, he, rfl, rfl⟩⟩ rfl ?_
   exact q_i (StIs.fail (by simp only [applyF, h16, if_true]))
  ·have hVE : validS c l = true ∧ validE e = true := by revert h16; simp
   refine go 8 ?_
   refine o_call (ref10Step _ vc c hvc hsc _ l hv hsf e hse hVE.1 hVE.2) rfl rfl (fun v21 I21 j21 q21 => ?_)
   obtain ⟨w21, rfl, hw21⟩ := q21
   refine go 3 ?_
   refine o_stw _ he rfl rfl rfl rfl rfl (by simp [hw21.one]) ?_
   refine go 4 ?_
   refine fin2 rfl ⟨_, _, _, rfl, m0, .inr ⟨_, he, rfl, rfl⟩⟩ rfl ?_
   exact q_i ⟨w21, rfl, hw21⟩

theorem ref11Up (I : IMap) (v : Value) (l : List Evt) (hv : RdS I v l) (hl : l.length ≤ 1000000) (day : Int) :
    FnI Tryz.prog 46 #[v, .int .i64 day] I (fun u J => RdS J u (l.filter fun e => !decide (e.day > day))) := by
 obtain ⟨A, c0, rfl, hA, hc, hm⟩ := hv
 refine enter Tryz.func46 Tryz.call46 rfl Tryz.ntmps46 rfl (fun w0 => ?_)
 refine go 7 ?_
 refine sx_nilrow 43 14 ?_
 refine go 10 ?_
 refine c_loop4 ((0 : Nat)) (_) ([]) ([]) (fun i v xs out => I)
  (fun i v xs out => [(0, .slice A l.length c0), (1, .int .i64 day), (5, v), (6, .int .i64 ((i : Nat) : Int))])
  (fun i v xs out => [.row v 43 14 out.length xs])
  (fun i v xs out => i ≤ l.length ∧ (l.take i).filter (fun e : Evt => !decide (e.day > day)) = out ∧ Flat I xs out)
  (fun i v xs out => l.length - i) ⟨Nat.zero_le _, rfl, .nil⟩ rfl sb rfl ?_
 intro i v xs out ⟨hi, hw, hF⟩
 have hol : out.length ≤ i := by rw [← hw]; exact Nat.le_trans (List.length_filter_le _ _) (by rw [List.length_take]; omega)
 refine go 9 ?_
 refine cb rfl (fun h10 p10 => ?_) (fun h10 p10 => ?_)
 ·have hlt : i < l.length := by omega
  refine go 8 ?_
  obtain ⟨b15, o15, w15, e15, c15, r15⟩ := RdA.at_ hA (i := i) hlt
  obtain rfl := r15
  refine o_v rfl (v_idx he rfl rfl e15 (i) (by omega) hlt) ?_
  refine go 1 ?_
  refine o_v rfl (v_ldI he rfl (c15 1 _ rfl)) ?_
  refine go 4 ?_
  refine cb rfl (fun h19 p19 => ?_) (fun h19 p19 => ?_)
  ·refine go 4 ?_
   obtain ⟨b23, o23, w23, e23, c23, r23⟩ := RdA.at_ hA (i := i) hlt
   obtain rfl := r23
   refine o_v rfl (v_idx he rfl rfl e23 (i) (by omega) hlt) ?_
   refine o_v rfl (v_ldIa he rfl c23 rfl) ?_
   refine go 1 ?_
   refine o_buildSlice he he rfl rfl rfl rfl rfl rfl rfl (fun v25 => ?_)
   refine go 1 ?_
   refine bring1 ?_
   refine o_appendO he he rfl rfl rfl rfl rfl (by omega) (by omega) rfl (fun v26 => ?_)
   refine go 10 ?_
   refine bring1 ?_
   refine sx_drop ?_
   exact q_next4 (i + 1) (_) (_) (out ++ [l[i]]) ⟨by omega, by rw [filter_yes (f := (fun e : Evt => !decide (e.day > day))) hlt (by simpa using p19), hw], hF.append (.one rfl)⟩ (by omega) rfl sb (by first | rfl | (simp only [List.length_append, List.length_singleton]; rfl) | simp only [List.length_append, List.length_singleton])
  ·refine go 9 ?_
   exact q_next4 (i + 1) (_) (_) (out) ⟨by omega, by rw [filter_no (f := (fun e : Evt => !decide (e.day > day))) hlt (by simpa using p19), hw], hF⟩ (by omega) rfl sb (by first | rfl | (simp only [List.length_append, List.length_singleton]; rfl) | simp only [List.length_append, List.length_singleton])
 ·refine go 12 ?_
  refine fin1 rfl rfl ?_
  have e : i = l.length := (by omega)
  subst e
  rw [List.take_length] at hw
  subst hw
  refine sx_pubrow (l := l.filter (fun e : Evt => !decide (e.day > day))) rfl rfl hF (fun I9 j9 R9 => ?_)
  exact q_i R9

theorem ref11Sort (I : IMap) (v : Value) (l : List Evt) (hv : RdS I v l) (hl : l.length ≤ 1000000) :
    FnI Tryz.prog 45 #[v] I (fun u J => RdS J u (sortF l)) := by
 obtain ⟨A, c0, rfl, hA, hc, hm⟩ := hv
 refine enter Tryz.func45 Tryz.call45 rfl Tryz.ntmps45 rfl (fun w0 => ?_)
 refine go 17 ?_
 refine c_loop3 ((0 : Nat)) (_) (I) (fun i v3 J => J)
  (fun i v3 J => [(0, .slice A l.length c0), (3, v3), (4, .int .i64 ((i : Nat) : Int))])
  (fun i v3 J => [])
  (fun i v3 J => i ≤ l.length ∧ ILe I J ∧ RdS J v3 (sortF (l.take i)))
  (fun i v3 J => l.length - i) ⟨Nat.zero_le _, ILe.refl _, RdS.nil'⟩ rfl sb rfl ?_
 intro i v3 J ⟨hi, hJ, hv3⟩
 have hA := hA.le hJ
 obtain ⟨A3, c3, rfl, hA3, hc3, hm3⟩ := id hv3
 have hsl : (sortF (l.take i)).length = i := by rw [sortF_len, List.length_take]; omega
 refine go 9 ?_
 refine cb rfl (fun h10 p10 => ?_) (fun h10 p10 => ?_)
 ·have hlt : i < l.length := by omega
  refine go 12 ?_
  refine c_cutx (α := Nat) (Ix := (fun k => J)) (Lx := (fun k => [(0, .slice A l.length c0), (3, .slice A3 (sortF (l.take i)).length c3), (4, .int .i64 ((i : Nat) : Int)), (5, .int .i64 ((k : Nat) : Int))])) (Hx := (fun k => [])) (p := (fun k => k ≤ i ∧ (∀ j y, k ≤ j → (sortF (l.take i))[j]? = some y → Day.day y > Day.day l[i]) ∧ (k = 0 ∨ ∃ y, (sortF (l.take i))[k - 1]? = some y ∧ Day.day y ≤ Day.day l[i]))) ?_ ?_
  ·refine go 1 ?_
   refine c_loop (α := Nat) i (fun k => J)
    (fun k => [(0, .slice A l.length c0), (3, .slice A3 (sortF (l.take i)).length c3), (4, .int .i64 ((i : Nat) : Int)), (5, .int .i64 ((k : Nat) : Int))])
    (fun k => [])
    (fun k => k ≤ i ∧ ∀ j y, k ≤ j → (sortF (l.take i))[j]? = some y → Day.day y > Day.day l[i])
    (fun k => k) ⟨Nat.le_refl _, fun j y h1 h2 => by have := (List.getElem?_eq_some_iff.1 h2).1; omega⟩ rfl ⟨rfl, rfl, rfl, congrArg (fun z : Nat => some (Value.int .i64 (z : Int))) hsl, trivial⟩ rfl ?_
   intro k ⟨hki, hk1⟩
   refine go 2 ?_
   refine d_startH T.mixed ?_
   refine d_tv 0 rfl rfl (by kernel_rfl) rfl .slnil rfl (v_move rfl) ?_
   refine d_tv 1 rfl rfl (by kernel_rfl) rfl .slnil rfl (v_gtr rfl rfl) ?_
   refine d_tv 2 rfl rfl (by kernel_rfl) rfl .slnil rfl (v_move rfl) ?_
   refine sxb 17 rfl (fun h17 p17 => ?_) (fun h17 p17 => ?_)
   ·refine d_t 3 rfl rfl (by kernel_rfl) rfl (fun _ m => m.keeps .slnil) (y_yes rfl rfl h17 (v_move rfl)) ?_
    refine d_t 4 rfl rfl (by kernel_rfl) rfl (fun _ m => m.keeps .slnil) (y_yes rfl rfl h17 (v_move rfl)) ?_
    refine d_t 5 rfl rfl (by kernel_rfl) rfl (fun _ m => m.keeps .slnil) (y_yes rfl rfl h17 (OV.cast (u := .int .i64 ((k - 1 : Nat) : Int)) (v_sub rfl rfl ⟨by omega, by omega⟩) (congrArg (Value.int .i64) (by omega)))) ?_
    obtain ⟨b21, o21, w21, e21, c21, r21⟩ := RdA.at_ hA3 (i := k - 1) (by omega)
    obtain rfl := r21
    refine d_t 6 rfl rfl (by kernel_rfl) rfl (fun _ m => m.keeps .slnil) (y_yes rfl rfl h17 (v_idx he rfl rfl e21 (k - 1) (by omega) (by omega))) ?_
    refine d_t 7 rfl rfl (by kernel_rfl) rfl (fun _ m => m.keeps .slnil) (y_yes rfl rfl h17 (v_fieldAddr he rfl)) ?_
    refine d_t 8 rfl rfl (by kernel_rfl) rfl (fun _ m => m.keeps .slnil) (y_yes rfl rfl h17 (v_ldI he rfl (c21 1 _ rfl))) ?_
    refine d_t 9 rfl rfl (by kernel_rfl) rfl (fun _ m => m.keeps .slnil) (y_yes rfl rfl h17 (v_move rfl)) ?_
    refine d_t 10 rfl rfl (by kernel_rfl) rfl (fun _ m => m.keeps .slnil) (y_yes rfl rfl h17 (v_move rfl)) ?_
    obtain ⟨b26, o26, w26, e26, c26, r26⟩ := RdA.at_ hA (i := i) hlt
    obtain rfl := r26
    refine d_t 11 rfl rfl (by kernel_rfl) rfl (fun _ m => m.keeps .slnil) (y_yes rfl rfl h17 (v_idx he rfl rfl e26 (i) (by omega) hlt)) ?_
    refine d_t 12 rfl rfl (by kernel_rfl) rfl (fun _ m => m.keeps .slnil) (y_yes rfl rfl h17 (v_fieldAddr he rfl)) ?_
    refine d_t 13 rfl rfl (by kernel_rfl) rfl (fun _ m => m.keeps .slnil) (y_yes rfl rfl h17 (v_ldI he rfl (c26 1 _ rfl))) ?_
    refine d_t 14 rfl rfl (by kernel_rfl) rfl (fun _ m => m.keeps .slnil) (y_yes rfl rfl h17 (v_gtr rfl rfl)) ?_
    refine d_tv 15 rfl rfl (by kernel_rfl) rfl .slnil rfl (v_and_t h17 rfl rfl) ?_
    refine d_done (by kernel_rfl) ?_
    refine go 1 ?_
    refine cb rfl (fun h30 p30 => ?_) (fun h30 p30 => ?_)
    ·refine go 10 ?_
     exact q_next (k - 1) ⟨by omega, fun j y h1 h2 => by
       rcases Nat.lt_or_ge j k with h | h
       · obtain rfl : j = k - 1 := by omega
         rw [List.getElem?_eq_getElem (by omega)] at h2
         cases h2
         exact p30
       · exact hk1 j y h h2⟩ (by omega) rfl ⟨rfl, rfl, rfl, congrArg (fun z : Int => some (Value.int .i64 z)) (by omega), trivial⟩ rfl
    ·refine go 5 ?_
     exact q_cutx k ⟨hki, hk1, .inr ⟨_, List.getElem?_eq_getElem (by omega), Int.not_lt.1 p30⟩⟩ sb rfl rfl
   ·refine d_t 3 rfl rfl (by kernel_rfl) rfl (fun _ m => m.keeps .slnil) (y_no rfl rfl h17) ?_
    refine d_t 4 rfl rfl (by kernel_rfl) rfl (fun _ m => m.keeps .slnil) (y_no rfl rfl h17) ?_
    refine d_t 5 rfl rfl (by kernel_rfl) rfl (fun _ m => m.keeps .slnil) (y_no rfl rfl h17) ?_
    refine d_t 6 rfl rfl (by kernel_rfl) rfl (fun _ m => m.keeps .slnil) (y_no rfl rfl h17) ?_
    refine d_t 7 rfl rfl (by kernel_rfl) rfl (fun _ m => m.keeps .slnil) (y_no rfl rfl h17) ?_
    refine d_t 8 rfl rfl (by kernel_rfl) rfl (fun _ m => m.keeps .slnil) (y_no rfl rfl h17) ?_
    refine d_t 9 rfl rfl (by kernel_rfl) rfl (fun _ m => m.keeps .slnil) (y_no rfl rfl h17) ?_
    refine d_t 10 rfl rfl (by kernel_rfl) rfl (fun _ m => m.keeps .slnil) (y_no rfl rfl h17) ?_
    refine d_t 11 rfl rfl (by kernel_rfl) rfl (fun _ m => m.keeps .slnil) (y_no rfl rfl h17) ?_
    refine d_t 12 rfl rfl (by kernel_rfl) rfl (fun _ m => m.keeps .slnil) (y_no rfl rfl h17) ?_
    refine d_t 13 rfl rfl (by kernel_rfl) rfl (fun _ m => m.keeps .slnil) (y_no rfl rfl h17) ?_
    refine d_t 14 rfl rfl (by kernel_rfl) rfl (fun _ m => m.keeps .slnil) (y_no rfl rfl h17) ?_
    refine d_tv 15 rfl rfl (by kernel_rfl) rfl .slnil rfl (v_and_f h17 rfl) ?_
    refine d_done (by kernel_rfl) ?_
    refine go 1 ?_
    refine c_false rfl ?_
    refine go 5 ?_
    exact q_cutx k ⟨hki, hk1, .inl (by omega)⟩ sb rfl rfl
  ·intro k ⟨hki, hk1, hk2⟩
   refine go 1 ?_
   refine sx_knowI (fun hE8 hf8 => ?_)
   refine d_startH T.mixed ?_
   refine d_tv 0 rfl rfl (by kernel_rfl) rfl .slnil rfl (v_move rfl) ?_
   refine d_tv 1 rfl rfl (by kernel_rfl) rfl .slnil rfl (v_move rfl) ?_
   obtain ⟨b35, o35, w35, e35, c35, r35⟩ := RdA.at_ hA (i := i) hlt
   obtain rfl := r35
   refine d_tv 2 rfl rfl (by kernel_rfl) rfl .slnil rfl (v_idx he rfl rfl e35 (i) (by omega) hlt) ?_
   refine d_tv 3 rfl rfl (by kernel_rfl) rfl .slnil rfl (v_ldIa he rfl c35 rfl) ?_
   refine d_tv 5 rfl rfl (by kernel_rfl) rfl .slnil rfl (v_move rfl) ?_
   refine d_tv 6 rfl rfl (by kernel_rfl) rfl .slnil rfl (v_move rfl) ?_
   refine d_tv 7 rfl rfl (by kernel_rfl) rfl .slnil rfl (v_slice_lo he rfl rfl k rfl (by omega)) ?_
   refine d_one 4 (by kernel_rfl) rfl ?_
   refine o_buildSlice he he rfl rfl rfl rfl rfl rfl rfl (fun v37 => ?_)
   refine d_on (fun _ m => m.keeps (.cons _ .slnil)) ?_
   refine d_one 8 (by kernel_rfl) rfl ?_
   refine o_appendR ((hv3.drop k (by omega))) rfl he he rfl rfl rfl rfl (by simp; omega) (by simp; omega) rfl (fun v41 x41 f41 => ?_)
   refine sx_pubrow (l := l[i] :: (sortF (l.take i)).drop k) rfl (by simp; omega) (.cons rfl f41) (fun I41 j41 R41 => ?_)
   have hA3 := hA3.le j41
   have hv3 := hv3.le j41
   refine d_on (fun _ m => m.keepsI .slnil (j41) hE8 hf8) ?_
   refine d_t 9 rfl rfl (by kernel_rfl) rfl (fun _ m => m.keepsI .slnil (j41) hE8 hf8) (y_v rfl (v_assign rfl)) ?_
   refine d_done (by kernel_rfl) ?_
   refine go 3 ?_
   refine o_buildSlice he he rfl rfl rfl rfl rfl rfl rfl (fun v42 => ?_)
   refine go 2 ?_
   refine o_v rfl (v_slice_hi he rfl rfl k rfl (by omega)) ?_
   refine go 1 ?_
   refine o_appendR ((hv3.take k (by omega))) rfl he he rfl rfl rfl rfl (by simp; omega) (by simp; omega) rfl (fun v46 x46 f46 => ?_)
   refine go 2 ?_
   refine o_appendR (R41) rfl he he rfl rfl rfl rfl (by simp; omega) (by simp; omega) rfl (fun v48 x48 f48 => ?_)
   refine sx_pubrow (l := (sortF (l.take i)).take k ++ l[i] :: (sortF (l.take i)).drop k) rfl (by simp <;> omega) (((Flat.nil.append f46).append f48)) (fun I48 j48 R48 => ?_)
   refine go 10 ?_
   exact q_next3 (i + 1) (_) (_) ⟨by omega, hJ.trans (j41.trans j48), by rw [← take_succ_of hlt, ← ins_right (k := k) (by omega) hk1 (by rcases hk2 with h | h; exact .inl h; exact .inr h)]; simpa using R48⟩ (by omega) rfl sb rfl
 ·refine go 12 ?_
  refine fin1 rfl rfl ?_
  have e : i = l.length := (by omega)
  subst e
  exact q_i (by have h := hv3; rwa [List.take_length] at h ⊢)

end Go.Proofs.YthcefohbbfjjfaaGreat

/- A row of a list: one element is written. -/
set_option linter.all false
namespace Go.Sx
open Go
section
variable {P : Program} {n : Sz} {E : Ent} {I : IMap} {L : LL} {H : List Res} {K : Act → World → Prop}
variable {α : Type} [Enc α]
theorem sx_rowslice {v : Value} {e k m : Nat} {xs : List Value} (h : ∀ A c, v = .slice A m c → SX n E I L (.row v e k m xs :: H) K) : SX n E I L (.row v e k m xs :: H) K := by
  refine sx_know (p := ∃ h, IsRow h v e k m xs) (fun w mm => ⟨_, mm.holds _ (List.mem_cons_self ..)⟩) fun ⟨_, _, hr⟩ => ?_
  rcases hr with ⟨rfl, rfl⟩ | ⟨g, cap, cur, rfl, _⟩
  · exact h _ _ rfl
  · exact h _ _ rfl
end
section
variable {α : Type} [Enc α] {I : IMap} {A : Option Addr} {m c : Nat} {l : List α}
end
/-! a scope through which the run goes without a jump -/
section
variable {P : Program} {b : Frame} {a : Act} {k : List Item} {cs : List Frame} {w : World} {Q : Exit → Act → World → Prop} {F : Fence}
end
section
variable {P : Program} {ρ : Option Nat} {n : Sz} {E : Ent} {I : IMap} {L : LL} {H : List Res} {Q : Exit → Act → World → Prop}
end
end Go.Sx

/- Reports and choices: what they are in Lean, how they lie in memory. -/
set_option linter.all false
namespace Go.Sx
open Go
structure Rep where
  options : List Evt
  doubtful : Bool
  deriving DecidableEq
def Rep.cells (r : Rep) (s : Value) : List Value := [s, .bool r.doubtful]
instance : Enc Rep where
  k := 2
  rd I vs x := ∃ s, vs = x.cells s ∧ RdS I s x.options
  len h := by obtain ⟨ks, rfl, _⟩ := h; rfl
  mono hI h := by obtain ⟨ks, rfl, h⟩ := h; exact ⟨ks, rfl, h.le hI⟩
  one h := by obtain ⟨ks, rfl, h⟩ := h; obtain ⟨A, c, rfl, _⟩ := h; rfl
instance : Enc UInt8 where
  k := 1
  rd _ vs x := vs = [.int .u8 x.toNat]
  len h := by rw [h]; rfl
  mono _ h := h
  one h := by rw [h]; rfl
/-- an event that is picked, and the report that picks it -/
structure Pkd where
  e : Evt
  rep : Int
  lo : 0 ≤ e.day
  hi : e.day ≤ 40000
def Pkd.cells (p : Pkd) : List Value := p.e.cells ++ [ci p.rep]
instance : Enc Pkd where
  k := 15
  rd _ vs x := vs = x.cells
  len h := by rw [h]; rfl
  mono _ h := h
  one h := by rw [h]; rfl
instance : Day Pkd := ⟨fun p => p.e.day, Pkd.cells, 15, fun _ => rfl⟩
/-! reports -/
/-! numbers for reports -/
end Go.Sx

/- Sorting what is picked; a callee that changes one thing and leaves memory behind. -/
set_option linter.all false
namespace Go.Sx
open Go
/-- what lies behind the elements in a block -/
structure Rst (k : Nat) where
  l : List (List Value)
  uk : Uk k l
section
variable {α : Type} [Day α]
end
section
variable {P : Program} {ρ : Option Nat} {n : Sz} {E : Ent} {I I' : IMap} {L : LL} {H : List Res} {Q : Exit → Act → World → Prop} {ops : Array Oper} {K : Act → World → Prop} {w0 : World}
variable {d ty : Nat} {pos : String} {af : Array Edge} {fo : Operand} {as_ : List Operand} {ats : Array TypeId} {f : FuncId} {args : List Value} {r r' : Res} {X : List Nat}
theorem FnX.of_V {args : Array Value} {v : Value} {t k : Nat} (h : FnV P f args I v) : FnX P f args I [] (fun u r => u = v ∧ r = .row (.slice none 0 0) t k 0 []) :=
  ⟨fun w m => (h.go w m).mono fun _ _ ⟨u, I', H', he, hm, hq⟩ => by
    obtain ⟨rfl, rfl, rfl⟩ := hq
    exact ⟨_, _, _, he, hm.nilrow t k, rfl, _, rfl, rfl, rfl⟩⟩
theorem FnX.back {args : Array Value} {g e k m cap : Nat} {xss yss rest : List (List Value)} {p : Value → Res → Prop} (hU : Uk k yss) (hR : Uk k rest) (hm : yss.length = m) (hc : m + rest.length = cap) (hl : cap ≤ maxLen)
    (h : FnX P f args I [.blk g e (xss ++ rest).flatten] (fun u r => p u (.row (.slice (some ⟨g, 0, none⟩) m cap) e k m yss.flatten) ∧ r = .blk g e (yss ++ rest).flatten)) : FnX P f args I [.blk g e (xss ++ rest).flatten] p :=
  ⟨fun w m' => (h.go w m').mono fun _ w' ⟨u, I', H', he, hm', hq⟩ => by
    obtain ⟨rfl, r', rfl, hp, rfl⟩ := hq
    refine ⟨_, _, _, he, ?_, rfl, _, rfl, hp⟩
    have hb : w'.heap[g]? = some (.cells (yss ++ rest).flatten.toArray e (0, 0)) := hm'.blk
    exact hm'.step rfl rfl rfl (Nat.le_refl _) (fun _ _ _ => rfl) (IsRow.shut hb hU hR hm hc hl) (fun g' hg' => .inl hg')⟩
theorem FnX.of_rowV {args : Value → List Value} {p : Value → Res → Prop} {v : Value} {e k m : Nat} {xss : List (List Value)} (hU : Uk k xss) (hm : xss.length = m)
    (h0 : m = 0 → v = .slice none 0 0 → FnX P f (args (.slice none 0 0)).toArray I [] p)
    (h1 : ∀ g cap rest, v = .slice (some ⟨g, 0, none⟩) m cap → Uk k rest → m + rest.length = cap → cap ≤ maxLen → FnX P f (args (.slice (some ⟨g, 0, none⟩) m cap)).toArray I [.blk g e (xss ++ rest).flatten] p) : FnX P f (args v).toArray I [.row v e k m xss.flatten] p := by
  refine ⟨fun w mm => ?_⟩
  have hr : IsRow (look' w) v e k m xss.flatten := mm.holds (.row v e k m xss.flatten) (List.mem_cons_self ..)
  rcases hr.open_ hU hm with ⟨h2, h3⟩ | ⟨g, cap, rest, h2, h3, h4, h5, h6⟩
  · subst h3
    exact (h0 h2 rfl).go w mm.drop
  · subst h2
    exact (h1 g cap rest rfl h3 h4 h5).go w (mm.step rfl rfl rfl (Nat.le_refl _) (fun _ _ _ => rfl) h6 (fun g' hg' => .inl hg'))
end
/-! picking -/
section
variable {day : Int} {l : List Rep} {ch : List Int} {i : Nat} {out : List Pkd}
end
end Go.Sx

/- Lists of texts in a block: their order does not matter, their elements do. -/
set_option linter.all false
namespace Go.Sx
open Go
def strCh (l : List ByteArray) : List (List Value) := l.map fun s => [.string s]
theorem str_uk (l : List ByteArray) : Uk 1 (strCh l) := fun c hc => by obtain ⟨e, _, rfl⟩ := List.mem_map.1 hc; rfl
theorem str_len (l : List ByteArray) : (strCh l).length = l.length := by simp [strCh]
theorem str_flat (I : IMap) : ∀ l : List ByteArray, FlatC I (strCh l) l
  | [] => .nil
  | s :: r => .cons rfl (str_flat I r)
theorem str_of {I : IMap} {xss : List (List Value)} {l : List ByteArray} (h : FlatC I xss l) : xss = strCh l := by
  induction h with
  | nil => rfl
  | cons h1 _ ih => rw [ih]; simp only [strCh, List.map_cons]; rw [show _ = _ from h1]
theorem str_at {l : List ByteArray} {rest : List (List Value)} {i : Nat} (h : i < l.length) : (strCh l ++ rest)[i]? = some [.string l[i]] := by
  rw [List.getElem?_append_left (by rw [str_len]; exact h)]; simp [strCh, h]
theorem str_set {l : List ByteArray} {rest : List (List Value)} {i : Nat} (h : i < l.length) (s : ByteArray) : (strCh l ++ rest).set i [.string s] = strCh (l.set i s) ++ rest := by
  rw [List.set_append_left _ _ (by rw [str_len]; exact h)]
  congr 1
  simp [strCh, List.map_set]
/-- of the same elements -/
def Pm (l m : List ByteArray) : Prop := m.length = l.length ∧ ∀ x, x ∈ m ↔ x ∈ l
theorem Pm.refl (l : List ByteArray) : Pm l l := ⟨rfl, fun _ => Iff.rfl⟩
theorem Pm.swap {l m : List ByteArray} {i j : Nat} (h : Pm l m) (hi : i < m.length) (hj : j < m.length) : Pm l ((m.set i m[j]).set j m[i]) := by
  have hp : ((m.set i m[j]).set j m[i]).Perm m := List.set_set_perm hi hj
  exact ⟨by rw [List.length_set, List.length_set]; exact h.1, fun x => by rw [hp.mem_iff]; exact h.2 x⟩
theorem str_swp {l : List ByteArray} {rest : List (List Value)} {i j : Nat} (hi : i < l.length) (hj : j < l.length) : ((strCh l ++ rest).set i [.string l[j]]).set j [.string l[i]] = strCh ((l.set i l[j]).set j l[i]) ++ rest := by
  rw [str_set hi, str_set (by rw [List.length_set]; exact hj)]
theorem str_swp' {l : List ByteArray} {rest : List (List Value)} {i j : Nat} (hi : i < l.length) (hj : j < l.length) (hij : i ≠ j) : ((strCh l ++ rest).set j [.string l[i]]).set i [.string l[j]] = strCh ((l.set i l[j]).set j l[i]) ++ rest := by
  rw [str_set hj, str_set (by rw [List.length_set]; exact hi), List.set_comm _ _ hij.symm]
theorem conv_u8 (b : UInt8) : IntKind.i64.wrap ((b.toNat : Nat) : Int) = ((b.toNat : Nat) : Int) := by
  have := b.toNat_lt; rw [IntKind.wrap_i64]; omega
theorem conv_add (b : UInt8) : I64 (0 + ((b.toNat : Nat) : Int)) := by
  have := b.toNat_lt; exact ⟨by omega, by omega⟩
/-! what is left of a list of texts without repetitions -/
structure Cpt (l B : List ByteArray) (k p : Nat) : Prop where
  len : B.length = l.length
  kp : k + 1 ≤ p
  pl : p ≤ l.length
  tail : ∀ j, p - 1 ≤ j → B[j]? = l[j]?
  mem : ∀ x, x ∈ B.take k ↔ x ∈ l.take p
theorem Cpt.start {l : List ByteArray} {k : Nat} (hk : 1 ≤ k) (hl : k < l.length) (h : l[k] = l[k - 1]) : Cpt l l k (k + 1) := by
  refine ⟨rfl, Nat.le_refl _, hl, fun _ _ => rfl, fun x => ?_⟩
  rw [← take_succ_of hl]
  constructor
  · intro hx; exact List.mem_append_left _ hx
  · intro hx
    rcases List.mem_append.1 hx with hx | hx
    · exact hx
    · obtain rfl := List.mem_singleton.1 hx
      rw [h]
      exact List.mem_take_iff_getElem.2 ⟨k - 1, by omega, rfl⟩
theorem Cpt.skip {l B : List ByteArray} {k p : Nat} (h : Cpt l B k p) (hp : p < l.length) (he : l[p] = l[p - 1]) (h1 : 1 ≤ p) : Cpt l B k (p + 1) := by
  refine ⟨h.len, by have := h.kp; omega, hp, fun j hj => h.tail j (by omega), fun x => ?_⟩
  rw [h.mem x, ← take_succ_of hp]
  constructor
  · intro hx; exact List.mem_append_left _ hx
  · intro hx
    rcases List.mem_append.1 hx with hx | hx
    · exact hx
    · obtain rfl := List.mem_singleton.1 hx
      rw [he]
      exact List.mem_take_iff_getElem.2 ⟨p - 1, by omega, rfl⟩
theorem Cpt.keep {l B : List ByteArray} {k p : Nat} (h : Cpt l B k p) (hp : p < l.length) : Cpt l (B.set k l[p]) (k + 1) (p + 1) := by
  have hkp := h.kp
  have hkB : k < B.length := by rw [h.len]; omega
  refine ⟨by rw [List.length_set]; exact h.len, by omega, hp, fun j hj => ?_, fun x => ?_⟩
  · rw [List.getElem?_set_ne (by omega)]; exact h.tail j (by omega)
  · rw [← take_succ_of (l := B.set k l[p]) (i := k) (by rw [List.length_set]; exact hkB), ← take_succ_of hp, List.mem_append, List.mem_append, List.getElem_set_self, List.take_set_of_le (Nat.le_refl _), h.mem x]
theorem Cpt.get {l B : List ByteArray} {k p j : Nat} (h : Cpt l B k p) (hj : p - 1 ≤ j) (hl : j < l.length) (hb : j < B.length) : B[j] = l[j] := by
  have := h.tail j hj
  rw [List.getElem?_eq_getElem hl, List.getElem?_eq_getElem hb] at this
  exact Option.some.inj this
theorem Cpt.done {l B : List ByteArray} {k : Nat} (h : Cpt l B k l.length) (x : ByteArray) : x ∈ B.take k ↔ x ∈ l := by
  rw [h.mem x, List.take_length]
section
variable {P : Program} {ρ : Option Nat} {n : Sz} {E : Ent} {I : IMap} {L : LL} {H : List Res} {Q : Exit → Act → World → Prop} {ops : Array Oper} {K : Act → World → Prop}
variable {d ty : Nat} {pos : String} {af : Array Edge} {x y z : Operand}
/-- a cell of a block of chunks of one -/
theorem v_lds {g off tt t' : Nat} {xss : List (List Value)} {v : Value} (hm : Res.blk g t' xss.flatten ∈ H) (hU : Uk 1 xss) (ht : tyK P tt = some (false, 1)) (hx : ev L x = some (.pointer (some ⟨g, off, none⟩))) (i : Nat) (ho : off = i) (hi : xss[i]? = some [v]) :
    OV P n E I L H ⟨some d, .load tt x, ty, pos, af, none⟩ v := v_ld hm ht hx (by
  subst ho
  have h := flat_at hU hi
  rw [Nat.mul_one] at h
  have := congrArg (fun l : List Value => l[0]?) h
  simpa using this)
theorem v_sidxK {ts : Nat} {s : ByteArray} {i : Int} {kd : IntKind} (ht : P.underlying ts = some .string) (hx : ev L x = some (.string s)) (hy : ev L y = some (.int kd i)) (q : Nat) (hq : i = (q : Int)) (hlt : q < s.size) : OV P n E I L H ⟨some d, .index ts x y, ty, pos, af, none⟩ (.int .u8 ((s[q]!.toNat : Nat) : Int)) :=
  (fun a w st _ => by
    subst hq
    have hs : s[q]? = some (s[q]!) := by rw [getElem?_pos s q hlt, getElem!_pos s q hlt]
    simp [execOp, st.ev hx, st.ev hy, Instr.index, asIntOf, run_underlying ht, hs])
theorem FnX.backE {f : FuncId} {args : Array Value} {g e k : Nat} {xs : List Value} {p : Value → Res → Prop}
    (h : FnX P f args I [.blk g e xs] (fun u r => ∃ yss rest m cap, Uk k yss ∧ Uk k rest ∧ yss.length = m ∧ m + rest.length = cap ∧ cap ≤ maxLen ∧ r = .blk g e (yss ++ rest).flatten ∧ p u (.row (.slice (some ⟨g, 0, none⟩) m cap) e k m yss.flatten))) : FnX P f args I [.blk g e xs] p :=
  ⟨fun w m' => (h.go w m').mono fun _ w' ⟨u, I', H', he, hm', hq⟩ => by
    obtain ⟨rfl, r', rfl, yss, rest, m, cap, hU, hR, hm, hc, hl, rfl, hp⟩ := hq
    refine ⟨_, _, _, he, ?_, rfl, _, rfl, hp⟩
    have hb : w'.heap[g]? = some (.cells (yss ++ rest).flatten.toArray e (0, 0)) := hm'.blk
    exact hm'.step rfl rfl rfl (Nat.le_refl _) (fun _ _ _ => rfl) (IsRow.shut hb hU hR hm hc hl) (fun g' hg' => .inl hg')⟩
theorem FnX.weak {f : FuncId} {args : Array Value} {H : List Res} {p q : Value → Res → Prop} (h : FnX P f args I H p) (hpq : ∀ u r, p u r → q u r) : FnX P f args I H q :=
  ⟨fun w m' => (h.go w m').mono fun _ w' ⟨u, I', H', he, hm', hq⟩ => by
    obtain ⟨rfl, r', rfl, hp⟩ := hq
    exact ⟨_, _, _, he, hm', rfl, _, rfl, hpq _ _ hp⟩⟩
end
end Go.Sx

/- Walks, printed by a program out of the code of the functions: each theorem is a contract of one function. -/
namespace Go.Proofs.YthcefohbbfjjfaaGreat
open Go Go.Sx
set_option linter.all false
set_option maxRecDepth 20000
set_option maxHeartbeats 4000000
instance T.und_208 : Has (Tryz.prog.underlying 208) (.int .u64) := ⟨by kernel_rfl⟩
theorem isNaNS (I : IMap) (s : ByteArray) :
    FnV Tryz.prog 163 #[.string s] I (.bool false) := by
 refine enter Tryz.func163 Tryz.call163 rfl Tryz.ntmps163 rfl (fun w0 => ?_)
 refine go 14 ?_
 refine fin1 rfl rfl ?_
 exact q_v (congrArg Value.bool (by simp))

theorem lessS (I : IMap) (s t : ByteArray) :
    FnV Tryz.prog 151 #[.string s, .string t] I (.bool (sLt s t)) := by
 refine enter Tryz.func151 Tryz.call151 rfl Tryz.ntmps151 rfl (fun w0 => ?_)
 refine go 9 ?_
 refine o_callV (isNaNS _ s) rfl rfl ?_
 refine go 14 ?_
 refine fin1 rfl rfl ?_
 exact q_v rfl

theorem insStr (I : IMap) {rest : Rst 1} {cap : Nat} (g : Nat) (l : List ByteArray) (hl2 : l.length ≤ 12) (hc : l.length + rest.l.length = cap) (hcm : cap ≤ maxLen) :
    FnX Tryz.prog 145 #[.slice (some ⟨g, 0, none⟩) l.length cap, .int .i64 0, .int .i64 ((l.length : Nat) : Int)] I [.blk g 9 (strCh l ++ rest.l).flatten] (fun u r => u = .tuple #[] ∧ ∃ m, Pm l m ∧ r = .blk g 9 (strCh m ++ rest.l).flatten) := by
 refine enter Tryz.func145 Tryz.call145 rfl Tryz.ntmps145 rfl (fun w0 => ?_)
 refine go 3 ?_
 refine o_v rfl (OV.cast (u := .int .i64 ((1 : Nat) : Int)) (v_add rfl rfl ⟨by omega, by omega⟩) (congrArg (Value.int .i64) (by omega))) ?_
 refine go 4 ?_
 refine c_loop2 (1) (l) (fun i m => I)
  (fun i m => [(0, .slice (some ⟨g, 0, none⟩) l.length cap), (1, .int .i64 0), (2, .int .i64 ((l.length : Nat) : Int)), (6, .int .i64 ((i : Nat) : Int))])
  (fun i m => [.blk g 9 (strCh m ++ rest.l).flatten])
  (fun i m => (i ≤ l.length ∨ i = 1) ∧ Pm l m)
  (fun i m => l.length - i) ⟨.inr rfl, Pm.refl l⟩ rfl sb rfl ?_
 intro i m ⟨hi, hpm⟩
 refine go 8 ?_
 refine cb rfl (fun h12 p12 => ?_) (fun h12 p12 => ?_)
 ·have hlt : i < l.length := by omega
  refine go 11 ?_
  refine c_loop2 (i) (m) (fun j k => I)
   (fun j k => [(0, .slice (some ⟨g, 0, none⟩) l.length cap), (1, .int .i64 0), (2, .int .i64 ((l.length : Nat) : Int)), (6, .int .i64 ((i : Nat) : Int)), (7, .int .i64 ((j : Nat) : Int))])
   (fun j k => [.blk g 9 (strCh k ++ rest.l).flatten])
   (fun j k => j ≤ i ∧ Pm l k)
   (fun j k => j) ⟨Nat.le_refl _, hpm⟩ rfl sb rfl ?_
  intro j k ⟨hj, hpk⟩
  have hkl := hpk.1
  refine go 2 ?_
  refine d_startH T.mixed ?_
  refine d_tv 0 rfl rfl (by kernel_rfl) rfl (.refl _) rfl (v_move rfl) ?_
  refine d_tv 1 rfl rfl (by kernel_rfl) rfl (.refl _) rfl (v_move rfl) ?_
  refine d_tv 2 rfl rfl (by kernel_rfl) rfl (.refl _) rfl (v_gtr rfl rfl) ?_
  refine d_tv 3 rfl rfl (by kernel_rfl) rfl (.refl _) rfl (v_move rfl) ?_
  refine sxb 19 rfl (fun h19 p19 => ?_) (fun h19 p19 => ?_)
  ·have hjk : j < k.length := by omega
   have hjk1 : j - 1 < k.length := by omega
   refine d_t 4 rfl rfl (by kernel_rfl) rfl (fun _ m => m.keeps (.refl _)) (y_yes rfl rfl h19 (v_move rfl)) ?_
   refine d_t 5 rfl rfl (by kernel_rfl) rfl (fun _ m => m.keeps (.refl _)) (y_yes rfl rfl h19 (v_move rfl)) ?_
   refine d_t 6 rfl rfl (by kernel_rfl) rfl (fun _ m => m.keeps (.refl _)) (y_yes rfl rfl h19 (v_idx he rfl rfl rfl (j) (by omega) (by omega))) ?_
   refine d_t 7 rfl rfl (by kernel_rfl) rfl (fun _ m => m.keeps (.refl _)) (y_yes rfl rfl h19 (v_lds m0 (Uk.append (str_uk _) rest.uk) he rfl (j) (by omega) (str_at hjk))) ?_
   refine d_t 8 rfl rfl (by kernel_rfl) rfl (fun _ m => m.keeps (.refl _)) (y_yes rfl rfl h19 (v_move rfl)) ?_
   refine d_t 9 rfl rfl (by kernel_rfl) rfl (fun _ m => m.keeps (.refl _)) (y_yes rfl rfl h19 (v_move rfl)) ?_
   refine d_t 10 rfl rfl (by kernel_rfl) rfl (fun _ m => m.keeps (.refl _)) (y_yes rfl rfl h19 (OV.cast (u := .int .i64 ((j - 1 : Nat) : Int)) (v_sub rfl rfl ⟨by omega, by omega⟩) (congrArg (Value.int .i64) (by omega)))) ?_
   refine d_t 11 rfl rfl (by kernel_rfl) rfl (fun _ m => m.keeps (.refl _)) (y_yes rfl rfl h19 (v_idx he rfl rfl rfl (j - 1) (by omega) (by omega))) ?_
   refine d_t 12 rfl rfl (by kernel_rfl) rfl (fun _ m => m.keeps (.refl _)) (y_yes rfl rfl h19 (v_lds m0 (Uk.append (str_uk _) rest.uk) he rfl (j - 1) (by omega) (str_at hjk1))) ?_
   refine d_one 13 (by kernel_rfl) rfl ?_
   refine o_yes rfl rfl h19 (o_callV (lessS _ _ _) rfl rfl ?_)
   refine d_on (fun _ m => m.keeps (.refl _)) ?_
   refine d_tv 14 rfl rfl (by kernel_rfl) rfl (.refl _) rfl (v_and_t h19 rfl rfl) ?_
   refine d_done (by kernel_rfl) ?_
   refine go 1 ?_
   refine cb rfl (fun h30 p30 => ?_) (fun h30 p30 => ?_)
   ·refine go 4 ?_
    refine d_start1 T.mixed ?_
    refine d_tv 0 rfl rfl (by kernel_rfl) rfl (.cons _ .slnil) rfl (v_move rfl) ?_
    refine d_tv 1 rfl rfl (by kernel_rfl) rfl (.cons _ .slnil) rfl (v_move rfl) ?_
    refine d_tv 2 rfl rfl (by kernel_rfl) rfl (.cons _ .slnil) rfl (v_move rfl) ?_
    refine d_tv 3 rfl rfl (by kernel_rfl) rfl (.cons _ .slnil) rfl (v_move rfl) ?_
    refine d_tv 4 rfl rfl (by kernel_rfl) rfl (.cons _ .slnil) rfl (OV.cast (u := .int .i64 ((j - 1 : Nat) : Int)) (v_sub rfl rfl ⟨by omega, by omega⟩) (congrArg (Value.int .i64) (by omega))) ?_
    refine d_tv 5 rfl rfl (by kernel_rfl) rfl (.cons _ .slnil) rfl (v_move rfl) ?_
    refine d_tv 6 rfl rfl (by kernel_rfl) rfl (.cons _ .slnil) rfl (v_move rfl) ?_
    refine d_tv 7 rfl rfl (by kernel_rfl) rfl (.cons _ .slnil) rfl (OV.cast (u := .int .i64 ((j - 1 : Nat) : Int)) (v_sub rfl rfl ⟨by omega, by omega⟩) (congrArg (Value.int .i64) (by omega))) ?_
    refine d_tv 8 rfl rfl (by kernel_rfl) rfl (.cons _ .slnil) rfl (v_idx he rfl rfl rfl (j - 1) (by omega) (by omega)) ?_
    refine d_tv 10 rfl rfl (by kernel_rfl) rfl (.cons _ .slnil) rfl (v_move rfl) ?_
    refine d_tv 11 rfl rfl (by kernel_rfl) rfl (.cons _ .slnil) rfl (v_move rfl) ?_
    refine d_tv 12 rfl rfl (by kernel_rfl) rfl (.cons _ .slnil) rfl (v_idx he rfl rfl rfl (j) (by omega) (by omega)) ?_
    refine d_two 9 13 (by kernel_rfl) rfl rfl ?_ ?_
    ·refine o_val rfl (v_lds m0 (Uk.append (str_uk _) rest.uk) he rfl (j - 1) (by omega) (str_at hjk1)) ?_
     refine d_on (fun _ m => m.keeps (.cons _ .slnil)) ?_
     refine d_one 13 (by kernel_rfl) rfl ?_
     refine o_val rfl (v_lds m0 (Uk.append (str_uk _) rest.uk) he rfl (j) (by omega) (str_at hjk)) ?_
     refine d_on (fun _ m => m.keeps (.cons _ .slnil)) ?_
     refine d_tv 14 rfl rfl (by kernel_rfl) rfl (.cons _ .slnil) rfl (v_idx he rfl rfl rfl (j) (by omega) (by omega)) ?_
     refine d_one 15 (by kernel_rfl) rfl ?_
     refine o_stc _ (j) (by first | exact Uk.append (str_uk _) rest.uk | exact (Uk.append (str_uk _) rest.uk).set rfl _) he rfl rfl rfl rfl rfl (by omega) (by simp [str_len]; omega) ?_
     refine d_on (fun _ m => m.keeps (.cons _ .slnil)) ?_
     refine d_tv 16 rfl rfl (by kernel_rfl) rfl (.cons _ .slnil) rfl (v_idx he rfl rfl rfl (j - 1) (by omega) (by omega)) ?_
     refine d_one 17 (by kernel_rfl) rfl ?_
     refine o_stc _ (j - 1) (by first | exact Uk.append (str_uk _) rest.uk | exact (Uk.append (str_uk _) rest.uk).set rfl _) he rfl rfl rfl rfl rfl (by omega) (by simp [str_len]; omega) ?_
     refine d_on (fun _ m => m.keeps (.cons _ .slnil)) ?_
     refine d_done (by kernel_rfl) ?_
     refine go 4 ?_
     refine o_v rfl (OV.cast (u := .int .i64 ((j - 1 : Nat) : Int)) (v_sub rfl rfl ⟨by omega, by omega⟩) (congrArg (Value.int .i64) (by omega))) ?_
     refine go 3 ?_
     exact q_next2 (j - 1) ((k.set j k[j - 1]).set (j - 1) k[j]) ⟨by omega, hpk.swap hjk hjk1⟩ (by omega) rfl sb (by first | rw [← str_swp hjk hjk1] | rw [← str_swp' hjk hjk1 (by omega)])
    ·refine o_val rfl (v_lds m0 (Uk.append (str_uk _) rest.uk) he rfl (j) (by omega) (str_at hjk)) ?_
     refine d_on (fun _ m => m.keeps (.cons _ .slnil)) ?_
     refine d_one 9 (by kernel_rfl) rfl ?_
     refine o_val rfl (v_lds m0 (Uk.append (str_uk _) rest.uk) he rfl (j - 1) (by omega) (str_at hjk1)) ?_
     refine d_on (fun _ m => m.keeps (.cons _ .slnil)) ?_
     refine d_tv 14 rfl rfl (by kernel_rfl) rfl (.cons _ .slnil) rfl (v_idx he rfl rfl rfl (j) (by omega) (by omega)) ?_
     refine d_one 15 (by kernel_rfl) rfl ?_
     refine o_stc _ (j) (by first | exact Uk.append (str_uk _) rest.uk | exact (Uk.append (str_uk _) rest.uk).set rfl _) he rfl rfl rfl rfl rfl (by omega) (by simp [str_len]; omega) ?_
     refine d_on (fun _ m => m.keeps (.cons _ .slnil)) ?_
     refine d_tv 16 rfl rfl (by kernel_rfl) rfl (.cons _ .slnil) rfl (v_idx he rfl rfl rfl (j - 1) (by omega) (by omega)) ?_
     refine d_one 17 (by kernel_rfl) rfl ?_
     refine o_stc _ (j - 1) (by first | exact Uk.append (str_uk _) rest.uk | exact (Uk.append (str_uk _) rest.uk).set rfl _) he rfl rfl rfl rfl rfl (by omega) (by simp [str_len]; omega) ?_
     refine d_on (fun _ m => m.keeps (.cons _ .slnil)) ?_
     refine d_done (by kernel_rfl) ?_
     refine go 4 ?_
     refine o_v rfl (OV.cast (u := .int .i64 ((j - 1 : Nat) : Int)) (v_sub rfl rfl ⟨by omega, by omega⟩) (congrArg (Value.int .i64) (by omega))) ?_
     refine go 3 ?_
     exact q_next2 (j - 1) ((k.set j k[j - 1]).set (j - 1) k[j]) ⟨by omega, hpk.swap hjk hjk1⟩ (by omega) rfl sb (by first | rw [← str_swp hjk hjk1] | rw [← str_swp' hjk hjk1 (by omega)])
   ·refine go 12 ?_
    exact q_next2 (i + 1) (k) ⟨.inl (by omega), hpk⟩ (by omega) rfl sb rfl
  ·refine d_t 4 rfl rfl (by kernel_rfl) rfl (fun _ m => m.keeps (.refl _)) (y_no rfl rfl h19) ?_
   refine d_t 5 rfl rfl (by kernel_rfl) rfl (fun _ m => m.keeps (.refl _)) (y_no rfl rfl h19) ?_
   refine d_t 6 rfl rfl (by kernel_rfl) rfl (fun _ m => m.keeps (.refl _)) (y_no rfl rfl h19) ?_
   refine d_t 7 rfl rfl (by kernel_rfl) rfl (fun _ m => m.keeps (.refl _)) (y_no rfl rfl h19) ?_
   refine d_t 8 rfl rfl (by kernel_rfl) rfl (fun _ m => m.keeps (.refl _)) (y_no rfl rfl h19) ?_
   refine d_t 9 rfl rfl (by kernel_rfl) rfl (fun _ m => m.keeps (.refl _)) (y_no rfl rfl h19) ?_
   refine d_t 10 rfl rfl (by kernel_rfl) rfl (fun _ m => m.keeps (.refl _)) (y_no rfl rfl h19) ?_
   refine d_t 11 rfl rfl (by kernel_rfl) rfl (fun _ m => m.keeps (.refl _)) (y_no rfl rfl h19) ?_
   refine d_t 12 rfl rfl (by kernel_rfl) rfl (fun _ m => m.keeps (.refl _)) (y_no rfl rfl h19) ?_
   refine d_t 13 rfl rfl (by kernel_rfl) rfl (fun _ m => m.keeps (.refl _)) (y_no rfl rfl h19) ?_
   refine d_tv 14 rfl rfl (by kernel_rfl) rfl (.refl _) rfl (v_and_f h19 rfl) ?_
   refine d_done (by kernel_rfl) ?_
   refine go 1 ?_
   refine c_false rfl ?_
   refine go 12 ?_
   exact q_next2 (i + 1) (k) ⟨.inl (by omega), hpk⟩ (by omega) rfl sb rfl
 ·refine go 4 ?_
  refine end0 rfl ?_
  exact q_x ⟨rfl, m, hpm, rfl⟩

theorem pdqStr (I : IMap) {rest : Rst 1} {cap : Nat} (g : Nat) (l : List ByteArray) (hl2 : l.length ≤ 12) (hc : l.length + rest.l.length = cap) (hcm : cap ≤ maxLen) (z : Int) :
    FnX Tryz.prog 101 #[.slice (some ⟨g, 0, none⟩) l.length cap, .int .i64 0, .int .i64 ((l.length : Nat) : Int), .int .i64 z] I [.blk g 9 (strCh l ++ rest.l).flatten] (fun u r => u = .tuple #[] ∧ ∃ m, Pm l m ∧ r = .blk g 9 (strCh m ++ rest.l).flatten) := by
 refine enter Tryz.func101 Tryz.call101 rfl Tryz.ntmps101 rfl (fun w0 => ?_)
 refine go 11 ?_
 refine c_loop (α := Nat) 0 (fun i => I)
  (fun i => [(0, .slice (some ⟨g, 0, none⟩) l.length cap), (1, .int .i64 0), (2, .int .i64 ((l.length : Nat) : Int))])
  (fun i => [.blk g 9 (strCh l ++ rest.l).flatten])
  (fun i => True)
  (fun i => 0) trivial rfl sb rfl ?_
 intro i _
 refine go 5 ?_
 refine o_v rfl (OV.cast (u := .int .i64 ((l.length : Nat) : Int)) (v_sub rfl rfl ⟨by omega, by omega⟩) (congrArg (Value.int .i64) (by omega))) ?_
 refine go 7 ?_
 refine o_v rfl (OV.cast (u := .bool true) (v_leq rfl rfl) (congrArg Value.bool (decide_eq_true (by omega)))) ?_
 refine go 2 ?_
 refine c_true rfl ?_
 refine go 6 ?_
 refine o_callX1 (insStr _ g l hl2 hc hcm) rfl rfl (fun v27 s27 q27 => ?_)
 obtain ⟨rfl, m, hpm, rfl⟩ := q27
 refine go 7 ?_
 refine fin0 rfl ?_
 exact q_x ⟨rfl, m, hpm, rfl⟩

theorem len64 (I : IMap) (n : Nat) (hn : n < 200) :
    FnE Tryz.prog 155 #[.int .u64 ((n : Nat) : Int)] I (fun u => ∃ k : Nat, u = .int .i64 (k : Int)) := by
 refine enter Tryz.func155 Tryz.call155 rfl Tryz.ntmps155 rfl (fun w0 => ?_)
 refine go 9 ?_
 refine o_v rfl (OV.cast (u := .bool false) (v_geq rfl rfl) (congrArg Value.bool (decide_eq_false (by omega)))) ?_
 refine go 2 ?_
 refine c_false rfl ?_
 refine go 6 ?_
 refine o_v rfl (OV.cast (u := .bool false) (v_geq rfl rfl) (congrArg Value.bool (decide_eq_false (by omega)))) ?_
 refine go 2 ?_
 refine c_false rfl ?_
 refine go 6 ?_
 refine o_v rfl (OV.cast (u := .bool false) (v_geq rfl rfl) (congrArg Value.bool (decide_eq_false (by omega)))) ?_
 refine go 2 ?_
 refine c_false rfl ?_
 refine go 6 ?_
 refine o_v rfl (v_conv he he rfl (m := ((n : Nat) : Int)) (wrap_u8 n (by omega))) ?_
 refine o_v rfl (v_sidxK he rfl rfl n rfl (Nat.lt_of_lt_of_le hn (by decide +kernel))) ?_
 refine o_v rfl (v_conv he he rfl (conv_u8 _)) ?_
 refine o_v rfl (v_add rfl rfl (conv_add _)) ?_
 refine go 4 ?_
 refine fin1 rfl rfl ?_
 exact q_e ⟨_, by rw [Int.zero_add]⟩

theorem bitsLen (I : IMap) (n : Nat) (hn : n < 200) :
    FnE Tryz.prog 102 #[.int .u64 ((n : Nat) : Int)] I (fun u => ∃ k : Nat, u = .int .i64 (k : Int)) := by
 refine enter Tryz.func102 Tryz.call102 rfl Tryz.ntmps102 rfl (fun w0 => ?_)
 refine go 6 ?_
 refine c_false rfl ?_
 refine go 6 ?_
 refine o_callE (len64 _ n hn) rfl rfl (fun v7 q7 => ?_)
 obtain ⟨k, rfl⟩ := q7
 refine go 4 ?_
 refine fin1 rfl rfl ?_
 exact q_e ⟨_, rfl⟩

theorem sortStr (I : IMap) {rest : Rst 1} {cap : Nat} (g : Nat) (l : List ByteArray) (hl2 : l.length ≤ 12) (hc : l.length + rest.l.length = cap) (hcm : cap ≤ maxLen) :
    FnX Tryz.prog 60 #[.slice (some ⟨g, 0, none⟩) l.length cap] I [.blk g 9 (strCh l ++ rest.l).flatten] (fun u r => u = .tuple #[] ∧ ∃ m, Pm l m ∧ r = .blk g 9 (strCh m ++ rest.l).flatten) := by
 refine enter Tryz.func60 Tryz.call60 rfl Tryz.ntmps60 rfl (fun w0 => ?_)
 refine go 11 ?_
 refine o_v rfl (v_conv he he rfl (m := ((l.length : Nat) : Int)) (wrap_u64 _ (by omega) (by omega))) ?_
 refine go 1 ?_
 refine o_callE (bitsLen _ l.length (by omega)) rfl rfl (fun v9 q9 => ?_)
 obtain ⟨z, rfl⟩ := q9
 refine go 1 ?_
 refine o_callX1 (pdqStr _ g l hl2 hc hcm z) rfl rfl (fun v10 s10 q10 => ?_)
 obtain ⟨rfl, m, hpm, rfl⟩ := q10
 refine go 1 ?_
 refine end0 rfl ?_
 exact q_x ⟨rfl, m, hpm, rfl⟩

theorem insNil (I : IMap) :
    FnV Tryz.prog 145 #[.slice none 0 0, .int .i64 0, .int .i64 0] I (.tuple #[]) := by
 refine enter Tryz.func145 Tryz.call145 rfl Tryz.ntmps145 rfl (fun w0 => ?_)
 refine go 3 ?_
 refine o_v rfl (OV.cast (u := .int .i64 ((1 : Nat) : Int)) (v_add rfl rfl ⟨by omega, by omega⟩) (congrArg (Value.int .i64) (by omega))) ?_
 refine go 4 ?_
 refine c_loop (α := Nat) 0 (fun i => I)
  (fun i => [(2, .int .i64 0), (6, .int .i64 1)])
  (fun i => [])
  (fun i => True)
  (fun i => 0) trivial rfl sb rfl ?_
 intro i _
 refine go 5 ?_
 refine o_v rfl (OV.cast (u := .bool false) (v_lss rfl rfl) (congrArg Value.bool (decide_eq_false (by omega)))) ?_
 refine go 2 ?_
 refine c_false rfl ?_
 refine go 4 ?_
 refine end0 rfl ?_
 exact q_v rfl

theorem pdqNil (I : IMap) (z : Int) :
    FnV Tryz.prog 101 #[.slice none 0 0, .int .i64 0, .int .i64 0, .int .i64 z] I (.tuple #[]) := by
 refine enter Tryz.func101 Tryz.call101 rfl Tryz.ntmps101 rfl (fun w0 => ?_)
 refine go 11 ?_
 refine c_loop (α := Nat) 0 (fun i => I)
  (fun i => [(0, .slice none 0 0), (1, .int .i64 0), (2, .int .i64 0)])
  (fun i => [])
  (fun i => True)
  (fun i => 0) trivial rfl sb rfl ?_
 intro i _
 refine go 5 ?_
 refine o_v rfl (OV.cast (u := .int .i64 0) (v_sub rfl rfl ⟨by omega, by omega⟩) rfl) ?_
 refine go 7 ?_
 refine o_v rfl (OV.cast (u := .bool true) (v_leq rfl rfl) (congrArg Value.bool (decide_eq_true (by omega)))) ?_
 refine go 2 ?_
 refine c_true rfl ?_
 refine go 6 ?_
 refine o_callV (insNil _) rfl rfl ?_
 refine go 7 ?_
 refine fin0 rfl ?_
 exact q_v rfl

theorem sortNil (I : IMap) :
    FnV Tryz.prog 60 #[.slice none 0 0] I (.tuple #[]) := by
 refine enter Tryz.func60 Tryz.call60 rfl Tryz.ntmps60 rfl (fun w0 => ?_)
 refine go 11 ?_
 refine o_v rfl (v_conv he he rfl (m := ((0 : Nat) : Int)) (wrap_u64 _ (by omega) (by omega))) ?_
 refine go 1 ?_
 refine o_callE (bitsLen _ 0 (by omega)) rfl rfl (fun v9 q9 => ?_)
 obtain ⟨z, rfl⟩ := q9
 refine go 1 ?_
 refine o_callV (pdqNil _ z) rfl rfl ?_
 refine go 1 ?_
 refine end0 rfl ?_
 exact q_v rfl

theorem sortRow0 (I : IMap) (v : Value) (l : List ByteArray) (xs : List Value) (hF : Flat I xs l) (hl2 : l.length ≤ 12) :
    FnX Tryz.prog 60 #[v] I [.row v 9 1 l.length xs] (fun u r => u = .tuple #[] ∧ ∃ m ys, Pm l m ∧ Flat I ys m ∧ r = .row v 9 1 l.length ys) := by
  obtain ⟨xss, rfl, hC⟩ := FlatC.of hF
  refine FnX.of_rowV (args := fun v => [v]) hC.uk hC.len (fun h0 h1 => ?_) (fun g cap rest hv hR hc hcm => ?_)
  · obtain rfl : l = [] := List.eq_nil_of_length_eq_zero h0
    subst h1
    refine (FnX.of_V (t := 9) (k := 1) (sortNil I)).weak ?_
    rintro u r ⟨rfl, rfl⟩
    exact ⟨rfl, [], [], Pm.refl _, .nil, rfl⟩
  · subst hv
    obtain rfl := str_of hC
    refine FnX.backE (k := 1) ((sortStr I (rest := ⟨rest, hR⟩) g l hl2 hc hcm).weak ?_)
    rintro u r ⟨rfl, m, hpm, rfl⟩
    exact ⟨strCh m, rest, l.length, cap, str_uk m, hR, by rw [str_len, hpm.1], hc, hcm, rfl, rfl, m, _, hpm, (str_flat I m).flat, rfl⟩
end Go.Proofs.YthcefohbbfjjfaaGreat

/- Maps whose keys are structs of numbers, strings and truth values. -/
set_option linter.all false
namespace Go.Sx
open Go
def structK (P : Program) (kt : TypeId) : Bool := match P.underlying kt with
  | some (.struct _) => true
  | _ => false
end Go.Sx

/- Methods called through an interface value; machine words; quotients. -/
set_option linter.all false
namespace Go.Sx
open Go
/-- the method of a struct type -/
def methK (P : Program) (t : TypeId) (name : String) : Option FuncId :=
  match P.info? t, P.underlying t with
  | some i, some (.struct _) => match i.methods.find? (·.name == name) with
    | some m => match m.path.toList, m.func with
      | [], some (f, false) => some f
      | _, _ => none
    | none => none
  | _, _ => none
theorem methK_spec {P : Program} {t : TypeId} {name : String} {f : FuncId} (h : methK P t name = some f) : ∃ i fs m, P.info? t = some i ∧ P.underlying t = some (.struct fs) ∧ i.methods.find? (·.name == name) = some m ∧ m.path.toList = [] ∧ m.func = some (f, false) := by
  unfold methK at h
  split at h
  · rename_i i fs h1 h2
    split at h
    · rename_i m h3
      split at h
      · rename_i h4 h5
        cases h
        exact ⟨i, fs, m, h1, h2, h3, h4, h5⟩
      · cases h
    · cases h
  · cases h
theorem run_method {P : Program} {t : TypeId} {name : String} {f : FuncId} (h : methK P t name = some f) (v : Value) (w : World) (k : Nat) : (method (k + 1) t v name).run P w = .ok (f, v) w := by
  obtain ⟨i, fs, m, h1, h2, h3, h4, h5⟩ := methK_spec h
  have hti : (typeInfo t).run P w = .ok i w := by simp [typeInfo, h1]
  simp only [method, Sem.run_bind, hti, Result.andThen_ok, h3, h4, follow, Sem.run_pure, h5, receiverAt, run_underlying h2, Place.get]
theorem run_nilAhead {P : Program} {t : TypeId} {name : String} {f : FuncId} (h : methK P t name = some f) (v : Value) (w : World) (k : Nat) : (nilAhead (k + 1) t v name).run P w = .ok (some false) w := by
  obtain ⟨i, fs, m, h1, h2, h3, h4, h5⟩ := methK_spec h
  have hti : (typeInfo t).run P w = .ok i w := by simp [typeInfo, h1]
  simp only [nilAhead, Sem.run_bind, hti, Result.andThen_ok, h3, h4, followBlind, Sem.run_pure, h5, run_underlying h2]
section
variable {P : Program} {n : Sz} {E : Ent} {I : IMap} {L : LL} {H : List Res} {Q : Exit → Act → World → Prop} {ops : Array Oper} {K : Act → World → Prop}
variable {d ty tx tyy : Nat} {pos : String} {af : Array Edge} {x y : Operand}
theorem run_invoke {a : Act} {w : World} {as_ : List Operand} {ats : Array TypeId} {t : TypeId} {name : String} {f : FuncId} {v : Value} {vs : List Value} (s : St n a L) (hm : methK P t name = some f) (hx : ev L x = some (.iface t v)) (hv : evs L as_ = some vs) (o : Oper)
    (ho : o.op = .call { callee := .invoke x name, args := as_.toArray, argTypes := ats }) : (execOp a.eval o).run P w = (callFunc f (v :: vs).toArray).run P w := by
  have ha : as_.toArray.map a.eval = vs.toArray := by rw [← evs_spec s as_ vs hv]; simp
  have hd : ∃ q, P.types.size + Made.depth = q + 1 := ⟨P.types.size + 99, rfl⟩
  obtain ⟨q, hq⟩ := hd
  have e1 : (#[Value.iface t v] ++ vs.toArray)[0]? = some (Value.iface t v) := by simp
  have e2 : (#[Value.iface t v] ++ vs.toArray).extract 1 (#[Value.iface t v] ++ vs.toArray).size = vs.toArray := by simp [List.extract]
  simp only [execOp, ho, resolve, ha, s.ev hx, Sem.run_bind, Sem.run_pure, Result.andThen_ok, invoke, e1, e2, callMethod, run_program, hq, run_method hm]
  simp
/-- a call through an interface value -/
theorem o_invV {u : Value} {as_ : List Operand} {ats : Array TypeId} {t : TypeId} {name : String} {f : FuncId} {v : Value} {vs : List Value} (hm : methK P t name = some f) (hc : FnV P f (v :: vs).toArray I u) (hx : ev L x = some (.iface t v)) (hv : evs L as_ = some vs) (hd : Nat.blt d n.sz = true)
    (k : SX n E I ((d, u) :: L) H K) : SX n E I L H (one P ops Q ⟨some d, .call { callee := .invoke x name, args := as_.toArray, argTypes := ats }, ty, pos, af, none⟩ K) :=
  o_after (Hc := []) hc.go (fun a w s => run_invoke s hm hx hv _ rfl) hd fun v I' H' hI hp => by obtain ⟨rfl, rfl, rfl⟩ := hp; exact k
theorem v_nilMeth {t : TypeId} {name : String} {f : FuncId} {v : Value} {cs : Array Value} (hm : methK P t name = some f) (hx : ev L x = some (.func (.method name) #[.iface t v] cs)) : OV P n E I L H ⟨some d, .nilCheck x, ty, pos, af, none⟩ (.func (.method name) #[.iface t v] cs) :=
  (fun a w s _ => by
    have hd : ∃ q, P.types.size + Made.depth = q + 1 := ⟨P.types.size + 99, rfl⟩
    obtain ⟨q, hq⟩ := hd
    simp only [execOp, s.ev hx, Sem.run_bind, run_program, Result.andThen_ok, List.getElem?_toArray, List.getElem?_cons_zero, hq, run_nilAhead hm, bne_self_eq_false, Bool.false_eq_true, if_false, Sem.run_pure])
theorem v_iface {v : Value} {tt : Nat} (ht : structK P tt = true) (hx : ev L x = some v) : OV P n E I L H ⟨some d, .makeInterface tt x, ty, pos, af, none⟩ (.iface tt v) :=
  (fun a w s _ => by
    unfold structK at ht
    split at ht
    · rename_i fs h1; simp [execOp, s.ev hx, Instr.makeInterface, run_underlying h1]
    · cases ht)
theorem v_neg {i : Int} (hx : ev L x = some (.int .i64 i)) (hb : I64 (-i)) : OV P n E I L H ⟨some d, .unOp .neg tx x, ty, pos, af, none⟩ (.int .i64 (-i)) :=
  (fun a w s _ => by
    have e : 0 - i = -i := by omega
    simp [execOp, s.ev hx, Op.unary, Op.intArith, e]; exact IntWalk.i64_in _ ⟨hb.1, hb.2⟩)
theorem v_quo {i j : Int} (hx : ev L x = some (.int .i64 i)) (hy : ev L y = some (.int .i64 j)) (hj : j ≠ 0) (hb : I64 (i.tdiv j)) : OV P n E I L H ⟨some d, .binOp .quo tx x y tyy, ty, pos, af, none⟩ (.int .i64 (i.tdiv j)) :=
  (fun a w s _ => by
    simp only [execOp, s.ev hx, s.ev hy, eqGuard_at_int, binOp_quo, Op.intDiv, Sem.run_bind, if_neg hj]
    simp; exact IntWalk.i64_in _ ⟨hb.1, hb.2⟩)
theorem v_remI {i j : Int} (hx : ev L x = some (.int .i64 i)) (hy : ev L y = some (.int .i64 j)) (hj : j ≠ 0) : OV P n E I L H ⟨some d, .binOp .rem tx x y tyy, ty, pos, af, none⟩ (.int .i64 (i.tmod j)) :=
  (fun a w s _ => by
    simp only [execOp, s.ev hx, s.ev hy, eqGuard_at_int, binOp_rem, Op.intDiv, Sem.run_bind, if_neg hj]
    simp)
theorem v_imax4 {i j k l : Int} {ats : Array TypeId} {z z' : Operand} (hx : ev L x = some (.int .i64 i)) (hy : ev L y = some (.int .i64 j)) (hz : ev L z = some (.int .i64 k)) (hz' : ev L z' = some (.int .i64 l)) : OV P n E I L H ⟨some d, .call { callee := .builtin .max, args := #[x, y, z, z'], argTypes := ats }, ty, pos, af, none⟩ (.int .i64 (max (max (max i j) k) l)) := fun a w st _ => by
  have e : ∀ p q : Int, (if q > p then q else p) = max p q := fun p q => by omega
  simp [execOp, st.ev hx, st.ev hy, st.ev hz, st.ev hz', resolve, invoke, builtin, Builtin.max_, Builtin.max2, e]
theorem v_imin4 {i j k l : Int} {ats : Array TypeId} {z z' : Operand} (hx : ev L x = some (.int .i64 i)) (hy : ev L y = some (.int .i64 j)) (hz : ev L z = some (.int .i64 k)) (hz' : ev L z' = some (.int .i64 l)) : OV P n E I L H ⟨some d, .call { callee := .builtin .min, args := #[x, y, z, z'], argTypes := ats }, ty, pos, af, none⟩ (.int .i64 (min (min (min i j) k) l)) := fun a w st _ => by
  have e : ∀ p q : Int, (if q < p then q else p) = min p q := fun p q => by omega
  simp [execOp, st.ev hx, st.ev hy, st.ev hz, st.ev hz', resolve, invoke, builtin, Builtin.min_, Builtin.min2, e]
/-! words -/
theorem v_lowN {q : Nat} (hq : q < 18446744073709551616) (hx : ev L x = some (.int .u64 ((q : Nat) : Int))) : OV P n E I L H ⟨some d, .binOp .and tx x (.const (.int .u64 4294967295)) tyy, ty, pos, af, none⟩ (.int .u64 ((q % 4294967296 : Nat) : Int)) :=
  (fun a w s _ => by
    have h := bits_and_u64_nat q 4294967295 hq (by omega)
    have e : q &&& 4294967295 = q % 4294967296 := Nat.and_two_pow_sub_one_eq_mod q 32
    rw [e] at h
    have hy : a.eval (.const (.int .u64 4294967295)) = .int .u64 4294967295 := rfl
    have h2 : Op.intBits .and .u64 (q : Int) 4294967295 = pure (.int .u64 ((q % 4294967296 : Nat) : Int)) := by rw [← h]; rfl
    simp only [execOp, s.ev hx, hy, eqGuard_at_int, binOp_and, h2, Sem.run_bind]
    rfl)
theorem v_hiN {q : Nat} {kk : IntKind} (hx : ev L x = some (.int .u64 ((q : Nat) : Int))) : OV P n E I L H ⟨some d, .binOp .shr tx x (.const (.int kk 32)) tyy, ty, pos, af, none⟩ (.int .u64 ((q / 4294967296 : Nat) : Int)) :=
  (fun a w s _ => by
    have h := shift_shr_any .u64 kk (q : Int) 32 (by omega)
    have hy : a.eval (.const (.int kk 32)) = .int kk 32 := rfl
    have e : (q : Int) / 2 ^ min (32 : Int).toNat IntKind.u64.bits = ((q / 4294967296 : Nat) : Int) := by
      rw [show min (32 : Int).toNat IntKind.u64.bits = 32 from rfl]
      show (q : Int) / 4294967296 = _
      omega
    rw [e] at h
    have hb : binOp .shr tx (.int .u64 (q : Int)) (.int kk 32) = pure (.int .u64 ((q / 4294967296 : Nat) : Int)) := h
    simp [execOp, s.ev hx, hy, eqGuard_shr, hb])
theorem v_addN {q r : Nat} (hx : ev L x = some (.int .u64 ((q : Nat) : Int))) (hy : ev L y = some (.int .u64 ((r : Nat) : Int))) (hb : q + r < 18446744073709551616) : OV P n E I L H ⟨some d, .binOp .add tx x y tyy, ty, pos, af, none⟩ (.int .u64 ((q + r : Nat) : Int)) :=
  (fun a w s _ => by
    have e : IntKind.u64.wrap ((q : Int) + (r : Int)) = ((q + r : Nat) : Int) := by rw [IntKind.wrap_u64]; omega
    simp [execOp, s.ev hx, s.ev hy, eqGuard_at_int, binOp_add, Op.intArith, e])
theorem v_mulN {q r : Nat} (hx : ev L x = some (.int .u64 ((q : Nat) : Int))) (hy : ev L y = some (.int .u64 ((r : Nat) : Int))) (hb : q * r < 18446744073709551616) : OV P n E I L H ⟨some d, .binOp .mul tx x y tyy, ty, pos, af, none⟩ (.int .u64 ((q * r : Nat) : Int)) :=
  (fun a w s _ => by
    have e0 : (q : Int) * (r : Int) = ((q * r : Nat) : Int) := (Int.natCast_mul q r).symm
    have e : IntKind.u64.wrap ((q : Int) * (r : Int)) = ((q * r : Nat) : Int) := by rw [e0, IntKind.wrap_u64]; omega
    simp [execOp, s.ev hx, s.ev hy, eqGuard_at_int, binOp_mul, Op.intArith, e])
theorem v_mulW {q r : Nat} (hx : ev L x = some (.int .u64 ((q : Nat) : Int))) (hy : ev L y = some (.int .u64 ((r : Nat) : Int))) : OV P n E I L H ⟨some d, .binOp .mul tx x y tyy, ty, pos, af, none⟩ (.int .u64 ((q * r % 18446744073709551616 : Nat) : Int)) :=
  (fun a w s _ => by
    have e0 : (q : Int) * (r : Int) = ((q * r : Nat) : Int) := (Int.natCast_mul q r).symm
    have e : IntKind.u64.wrap ((q : Int) * (r : Int)) = ((q * r % 18446744073709551616 : Nat) : Int) := by rw [e0, IntKind.wrap_u64]; omega
    simp [execOp, s.ev hx, s.ev hy, eqGuard_at_int, binOp_mul, Op.intArith, e])
end
end Go.Sx

/- A block that is lent to a callee that makes memory of its own; calls with a tail of resources. -/
set_option linter.all false
namespace Go.Sx
open Go
section
variable {P : Program} {ρ : Option Nat} {n : Sz} {E : Ent} {I : IMap} {L : LL} {H : List Res} {Q : Exit → Act → World → Prop} {ops : Array Oper} {K : Act → World → Prop}
variable {d ty : Nat} {pos : String} {af : Array Edge} {fo : Operand} {as_ : List Operand} {ats : Array TypeId} {f : FuncId} {args : List Value} {g t : Nat} {cs : List Value} {w : World}
end
section
variable {P : Program} {n : Sz} {E : Ent} {I : IMap} {L : LL} {H : List Res} {K : Act → World → Prop}
theorem sx_app1' {a : Res} (h : SX n E I L (a :: H) K) : SX n E I L ([a] ++ H) K := h
end
/-- numbers in a block of their own -/
def intCs (ch : List Int) : List Value := ch.map ci
theorem intCs_flat {I : IMap} (ch : List Int) : Flat I (intCs ch) ch := by
  induction ch with
  | nil => exact .nil
  | cons x r ih => exact .cons rfl ih
end Go.Sx

/- Intervals and formulas: what their walks come to at each step. -/
set_option linter.all false
namespace Go.Sx
open Go
def minN (l : List Int) : Nat → Int
  | 0 => l[0]?.getD 0
  | i + 1 => if l[i + 1]?.getD 0 < minN l i then l[i + 1]?.getD 0 else minN l i
def maxN (l : List Int) : Nat → Int
  | 0 => l[0]?.getD 0
  | i + 1 => if l[i + 1]?.getD 0 > maxN l i then l[i + 1]?.getD 0 else maxN l i
section
variable {l : List Int} {i : Nat}
theorem minN_zero (h : 0 < l.length) : minN l 0 = l[0] := by simp [minN, h]
theorem maxN_zero (h : 0 < l.length) : maxN l 0 = l[0] := by simp [maxN, h]
theorem minN_step (h : i + 1 < l.length) : (if l[i + 1] < minN l i then l[i + 1] else minN l i) = minN l (i + 1) := by simp [minN, h]
theorem maxN_step (h : i + 1 < l.length) : (if l[i + 1] > maxN l i then l[i + 1] else maxN l i) = maxN l (i + 1) := by simp [maxN, h]
end
theorem min_lt (a b : Int) : (if b < a then b else a) = min a b := by omega
theorem max_gt (a b : Int) : (if b > a then b else a) = max a b := by omega
theorem minN4 (a b c d : Int) : minN [a, b, c, d] 3 = min (min (min a b) c) d := by
  show (if d < (if c < (if b < a then b else a) then c else (if b < a then b else a)) then d else (if c < (if b < a then b else a) then c else (if b < a then b else a))) = _
  simp only [min_lt]
theorem maxN4 (a b c d : Int) : maxN [a, b, c, d] 3 = max (max (max a b) c) d := by
  show (if d > (if c > (if b > a then b else a) then c else (if b > a then b else a)) then d else (if c > (if b > a then b else a) then c else (if b > a then b else a))) = _
  simp only [max_gt]
theorem both_no {f : Int → Int → Int} {a b : Ivl} (h : (!ivOk a || !ivOk b) = true) : bothI f a b = zIvl := if_pos h
theorem both_yes {f : Int → Int → Int} {a b : Ivl} (h : (!ivOk a || !ivOk b) = false) : bothI f a b = ⟨minN [f a.low b.low, f a.low b.high, f a.high b.low, f a.high b.high] 3, maxN [f a.low b.low, f a.low b.high, f a.high b.low, f a.high b.high] 3⟩ := by
  unfold bothI
  rw [if_neg (by rw [h]; decide), minN4, maxN4]
theorem both_in {a b : Ivl} (h : (!ivOk a || !ivOk b) = false) : ((-(1000000000000 : Int) ≤ a.low ∧ a.low ≤ (1000000000000 : Int)) ∧ (-(1000000000000 : Int) ≤ a.high ∧ a.high ≤ (1000000000000 : Int))) ∧ ((-(1000000000000 : Int) ≤ b.low ∧ b.low ≤ (1000000000000 : Int)) ∧ (-(1000000000000 : Int) ≤ b.high ∧ b.high ≤ (1000000000000 : Int))) := by
  simp only [Bool.or_eq_false_iff, Bool.not_eq_false'] at h
  have h1 := ivOk_iff.1 h.1
  have h2 := ivOk_iff.1 h.2
  omega
theorem join_no {a b : Ivl} (h : (!ivOk a || !ivOk b) = true) : joinI a b = zIvl := if_pos h
theorem join_yes {a b : Ivl} (h : (!ivOk a || !ivOk b) = false) : joinI a b = ⟨minN [a.low, a.high, b.low, b.high] 3, maxN [a.low, a.high, b.low, b.high] 3⟩ := by
  have hn : ¬ (!ivOk a || !ivOk b) = true := by rw [h]; decide
  simp only [Bool.or_eq_false_iff, Bool.not_eq_false'] at h
  have h1 := ivOk_iff.1 h.1
  have h2 := ivOk_iff.1 h.2
  unfold joinI
  rw [if_neg hn, minN4, maxN4]
  congr 1 <;> omega
theorem sat_neg {a b : Int} (h : (!(decide (a < 0) == decide (b < 0))) = true) : -(min ((a.natAbs * b.natAbs : Nat) : Int) (1000000000000 : Int)) = satI (a * b) := by
  have e : (((a.natAbs * b.natAbs : Nat)) : Int) = ((a * b).natAbs : Int) := by rw [Int.natAbs_mul]
  rw [e]
  unfold satI
  by_cases ha : a < 0 <;> by_cases hb : b < 0
  · simp [ha, hb] at h
  · have : a * b ≤ 0 := Int.mul_nonpos_of_nonpos_of_nonneg (by omega) (by omega)
    omega
  · have : a * b ≤ 0 := Int.mul_nonpos_of_nonneg_of_nonpos (by omega) (by omega)
    omega
  · simp [ha, hb] at h
theorem sat_pos {a b : Int} (h : (!(decide (a < 0) == decide (b < 0))) = false) : (min ((a.natAbs * b.natAbs : Nat) : Int) (1000000000000 : Int)) = satI (a * b) := by
  have e : (((a.natAbs * b.natAbs : Nat)) : Int) = ((a * b).natAbs : Int) := by rw [Int.natAbs_mul]
  rw [e]
  unfold satI
  by_cases ha : a < 0 <;> by_cases hb : b < 0
  · have := Int.mul_nonneg_of_nonpos_of_nonpos (a := a) (b := b) (by omega) (by omega)
    omega
  · simp [ha, hb] at h
  · simp [ha, hb] at h
  · have := Int.mul_nonneg (a := a) (b := b) (by omega) (by omega)
    omega
theorem tdiv_in {a b : Int} : (a.tdiv b).natAbs ≤ a.natAbs ∧ (a.tdiv b * b).natAbs ≤ a.natAbs := by
  have h1 : (a.tdiv b).natAbs ≤ a.natAbs := by rw [Int.natAbs_tdiv]; exact Nat.div_le_self _ _
  refine ⟨h1, ?_⟩
  rw [Int.natAbs_mul, Int.natAbs_tdiv]
  exact Nat.div_mul_le_self _ _
def floorB (a b : Int) : Bool := !decide (a.tdiv b * b = a) && !(decide (a < 0) == decide (b < 0))
theorem floor_z {a b : Int} (h : b = 0) : floorI a b = 0 := if_pos h
theorem floor_y {a b : Int} (h : ¬ b = 0) (h2 : floorB a b = true) : a.tdiv b - 1 = floorI a b := by
  unfold floorI
  simp only [floorB, Bool.and_eq_true, Bool.not_eq_true', decide_eq_false_iff_not] at h2
  rw [if_neg h, if_pos ⟨h2.1, by cases h1 : decide (a < 0) <;> cases h3 : decide (b < 0) <;> simp_all⟩]
theorem floor_n {a b : Int} (h : ¬ b = 0) (h2 : floorB a b = false) : a.tdiv b = floorI a b := by
  unfold floorI
  rw [if_neg h, if_neg]
  rintro ⟨h3, h4⟩
  simp only [floorB] at h2
  cases h1 : decide (a < 0) <;> cases h5 : decide (b < 0) <;> simp_all
/-! formulas -/
section
variable {f : Fm} {n m : Int} {i : Nat}
theorem cnt_mem : ∀ {ks : List Fm} {k : Fm}, k ∈ ks → cntN k ≤ cntNL ks
  | [], k, h => by cases h
  | x :: ks, k, h => by
    simp only [cntNL]
    rcases List.mem_cons.1 h with rfl | h
    · omega
    · have := cnt_mem h; omega
theorem cnt_kid {k : Fm} (h : k ∈ f.kids) : cntN k < cntN f := by
  obtain ⟨op, n, kids⟩ := f
  have := cnt_mem (show k ∈ kids from h)
  simp only [cntN]; omega
theorem nodes_start : nodesL (f.kids.drop 0) 1 m = nodesF f m := by cases f; rfl
theorem nodes_step (hi : i < f.kids.length) (h : nodesL (f.kids.drop i) n m = nodesF f m) (hn : ¬ n > m) : nodesL (f.kids.drop (i + 1)) (n + nodesF f.kids[i] (m - n)) m = nodesF f m := by
  rw [List.drop_eq_getElem_cons hi] at h
  rw [← h]; simp only [nodesL, if_neg hn]
theorem nodes_stop (hi : i < f.kids.length) (h : nodesL (f.kids.drop i) n m = nodesF f m) (hn : n > m) : n = nodesF f m := by
  rw [List.drop_eq_getElem_cons hi] at h
  rw [← h]; simp only [nodesL, if_pos hn]
theorem nodes_end (hi : ¬ i < f.kids.length) (h : nodesL (f.kids.drop i) n m = nodesF f m) : n = nodesF f m := by
  rw [List.drop_eq_nil_of_le (by omega)] at h
  rw [← h]; rfl
def bad1F (f : Fm) : Bool := decide (f.op < 1) || decide (f.op > 11)
def bad2F (f : Fm) : Bool := ((!decide ((f.kids.length : Int) = wantF f.op) || decide (f.n < 0)) || decide (f.n > 9999999)) || (decide (f.n > 0) && !decide (f.op = 1))
theorem right_eq : rightF f = (!bad1F f && (!bad2F f && allP (fun _ k => rightF k) f.kids f.kids.length)) := by
  have hl : ∀ ks : List Fm, rightL ks = ks.all rightF := fun ks => by
    induction ks with
    | nil => rfl
    | cons x ks ih => simp only [rightL, List.all_cons, ih]
  have ha : ∀ ks : List Fm, allP (fun _ k => rightF k) ks ks.length = ks.all rightF := fun ks => by
    rw [Bool.eq_iff_iff]
    constructor
    · intro h
      rw [List.all_eq_true]
      intro x hx
      obtain ⟨pre, h1⟩ := allP_mem h hx
      exact h1
    · intro h
      rw [List.all_eq_true] at h
      unfold allP
      rw [List.all_eq_true]
      intro i hi
      cases hq : ks[i]? with
      | none => rfl
      | some x => exact h x (List.mem_of_getElem? hq)
  obtain ⟨op, n, kids⟩ := f
  rw [ha]
  simp only [rightF, hl, bad1F, bad2F, Fm.op, Fm.n, Fm.kids, ne_eq, decide_not, Bool.and_assoc]
  rfl
theorem right_all (h1 : bad1F f = false) (h2 : bad2F f = false) (h3 : allP (fun _ k => rightF k) f.kids f.kids.length = true) : rightF f = true := by rw [right_eq, h1, h2, h3]; rfl
theorem right_b1 (h1 : bad1F f = true) : rightF f = false := by rw [right_eq, h1]; rfl
theorem right_b2 (h1 : bad2F f = true) : rightF f = false := by rw [right_eq, h1]; simp
theorem right_kid (h1 : i < f.kids.length) (h : rightF f.kids[i] = false) : rightF f = false := by rw [right_eq, allP_not (f := fun _ k => rightF k) h1 h]; simp
/-- what a right formula has -/
theorem right_is (h : rightF f = true) : (1 ≤ f.op ∧ f.op ≤ 11) ∧ (f.kids.length : Int) = wantF f.op ∧ (0 ≤ f.n ∧ f.n ≤ 9999999) ∧ ∀ k ∈ f.kids, rightF k = true := by
  cases f; exact rightF_mk h
theorem right_get (h : rightF f = true) (i : Nat) (hi : i < f.kids.length) : rightF f.kids[i] = true := (right_is h).2.2.2 _ (List.getElem_mem hi)
theorem len0 {l : List Fm} (h : l.length = 0) : l = [] := List.eq_nil_of_length_eq_zero h
theorem span_num (h : rightF f = true) (h1 : f.op = 1) (u : Use) : spanF u f = ⟨f.n, f.n⟩ := by
  have h2 := (right_is h).2.1
  obtain ⟨op, n, kids⟩ := f
  obtain rfl : op = 1 := h1
  obtain rfl : kids = [] := len0 (by simpa [wantF, Fm.op, Fm.kids] using h2)
  simp [spanF, Fm.n]
theorem span_letter (h : rightF f = true) (h1 : ¬ f.op = 1) (h4 : f.op ≤ 4) (u : Use) : spanF u f = letterI u f.op := by
  have h2 := (right_is h).2.1
  obtain ⟨op, n, kids⟩ := f
  have g1 : ¬ op = 1 := h1
  have g4 : op ≤ 4 := h4
  obtain rfl : kids = [] := len0 (by
    have : (kids.length : Int) = wantF op := h2
    unfold wantF at this
    rw [if_neg (by omega), if_neg (by omega)] at this
    omega)
  show (if op = 1 then _ else _) = _
  rw [if_neg g1]; rfl
theorem kids3 (h : rightF f = true) (h1 : f.op = 11) : f.kids.length = 3 := by
  have h2 := (right_is h).2.1
  rw [h1] at h2
  have e : wantF 11 = 3 := by decide
  rw [e] at h2; omega
theorem kids2 (h : rightF f = true) (h1 : ¬ f.op = 11) (h4 : ¬ f.op ≤ 4) : f.kids.length = 2 := by
  have h2 := (right_is h).2.1
  unfold wantF at h2
  rw [if_neg h1, if_pos (by omega)] at h2
  omega
theorem span_if (h3 : f.kids.length = 3) (u : Use) : spanF u f = chooseI (spanF u f.kids[0]) (spanF u f.kids[1]) (spanF u f.kids[2]) := by
  obtain ⟨op, n, kids⟩ := f
  have h3 : kids.length = 3 := h3
  match kids, h3 with
  | [a, b, c], _ => simp only [spanF, Fm.kids]; rfl
theorem span_two (h3 : f.kids.length = 2) (u : Use) : spanF u f = applyI f.op (spanF u f.kids[0]) (spanF u f.kids[1]) := by
  obtain ⟨op, n, kids⟩ := f
  have h3 : kids.length = 2 := h3
  match kids, h3 with
  | [a, b], _ => simp only [spanF, Fm.kids]; rfl
end
theorem fm_back {I : IMap} {s : Value} {k : Fm} (h : RdS I s k.kids) : FmRd I [ci k.op, ci k.n, s] k := by cases k; exact fm_in _ _ h
/-! rows of intervals -/
def ivCs (l : List Ivl) : List Value := l.flatMap Ivl.cells
theorem ivCs_flat {I : IMap} (l : List Ivl) : Flat I (ivCs l) l := by
  induction l with
  | nil => exact .nil
  | cons x l ih => exact .cons rfl ih
theorem ivCs_app (l m : List Ivl) : ivCs (l ++ m) = ivCs l ++ ivCs m := List.flatMap_append
theorem ivCs_one (x : Ivl) : ivCs [x] = x.cells := by simp [ivCs]
theorem RdS.rda {α : Type} [Enc α] {I : IMap} {A : Option Addr} {m c : Nat} {l : List α} (h : RdS I (.slice A m c) l) : RdA I A l := by
  obtain ⟨_, _, e, h, _⟩ := h; cases e; exact h
theorem signed_len (a : Ivl) (x y : Int) : (signedI a x y).length ≤ 2 := by unfold signedI; split <;> simp
theorem div_is {a b : Ivl} (h : 0 < (quosI a b).length) : divI a b = (quosI a b).foldl joinI (quosI a b)[0] := by
  have hd : ∀ (l : List Ivl) (h : 0 < l.length), l.headD zIvl = l[0] := fun l h => by cases l with | nil => simp at h | cons x l => rfl
  unfold divI
  rw [hd _ h]
theorem use_no {u : Use} {i : Nat} (h : i < 3) (hb : useIv ([u.km, u.cycles, u.load][i]) = false) : useOk u = false := by
  have h3 : i = 0 ∨ i = 1 ∨ i = 2 := by omega
  rcases h3 with rfl | rfl | rfl <;> (simp at hb; simp [useOk, hb])
theorem use_yes {u : Use} (h : allP (fun _ q => useIv q) [u.km, u.cycles, u.load] 3 = true) : useOk u = true := by
  unfold allP at h
  rw [List.all_eq_true] at h
  have h0 := h 0 (by simp)
  have h1 := h 1 (by simp)
  have h2 := h 2 (by simp)
  simp at h0 h1 h2
  simp [useOk, h0, h1, h2]
theorem dam_no {f : Fm} {u : Use} (h : useOk u = false) : damF f u = zIvl := by unfold damF; rw [if_pos h]
theorem dam_bad {f : Fm} {u : Use} (h : useOk u = true) (hv : validFm f = false) : damF f u = zIvl := by unfold damF; rw [if_neg (by rw [h]; decide), if_pos hv]
theorem dam_yes {f : Fm} {u : Use} (h : useOk u = true) (hv : validFm f = true) : damF f u = ⟨max 0 (spanF u f).low, max 0 (spanF u f).high⟩ := by unfold damF; rw [if_neg (by rw [h]; decide), if_neg (by rw [hv]; decide)]
theorem foldJ_step {l : List Ivl} {z : Ivl} {i : Nat} (h : i < l.length) : (l.take (i + 1)).foldl joinI z = joinI ((l.take i).foldl joinI z) l[i] := by
  rw [← take_succ_of h, List.foldl_append]; rfl
section
variable {P : Program} {ρ : Option Nat} {n : Sz} {E : Ent} {I I' : IMap} {L : LL} {H H0 : List Res} {Q : Exit → Act → World → Prop} {ops : Array Oper} {K : Act → World → Prop}
variable {d ty : Nat} {pos : String} {af : Array Edge} {fo : Operand} {as_ : List Operand} {ats : Array TypeId} {f : FuncId} {args : List Value} {r1 r2 r3 : Res}
theorem o_callH3 {post : Value → IMap → List Res → Prop} (hc : FnH P f args.toArray I [r1, r2, r3] post) (h : callArgs L fo as_ = some (f, args)) (hd : Nat.blt d n.sz = true)
    (k : ∀ v I' H', ILe I I' → post v I' H' → SX n E I' ((d, v) :: L) (H' ++ H0) K) :
    SX n E I L (r1 :: r2 :: r3 :: H0) (one P ops Q ⟨some d, .call { callee := .value fo, args := as_.toArray, argTypes := ats }, ty, pos, af, none⟩ K) := o_callH (Hc := [r1, r2, r3]) hc h hd k
theorem sx_app3' {a b c : Res} (h : SX n E I L (a :: b :: c :: H) K) : SX n E I L ([a, b, c] ++ H) K := h
end
end Go.Sx

/- Walks, printed by a program out of the code of the functions: each theorem is a contract of one function. -/
namespace Go.Proofs.YthcefohbbfjjfaaGreat
open Go Go.Sx
set_option linter.all false
set_option maxRecDepth 20000
set_option maxHeartbeats 4000000
instance T.by_32 : Has (bytesK Tryz.prog 32) ([.int .i64 0, .int .i64 0], 2, 16) := ⟨by kernel_rfl⟩
instance T.elt_158 : Has (eltK Tryz.prog 158) (85, 1) := ⟨by kernel_rfl⟩
instance T.elt_25 : Has (eltK Tryz.prog 25) (27, 3) := ⟨by kernel_rfl⟩
instance T.elt_64 : Has (eltK Tryz.prog 64) (32, 2) := ⟨by kernel_rfl⟩
instance T.elt_65 : Has (eltK Tryz.prog 65) (3, 1) := ⟨by kernel_rfl⟩
instance T.fld_27_0 : Has (fldK Tryz.prog 27 0) (0, false, 1) := ⟨by kernel_rfl⟩
instance T.fld_27_1 : Has (fldK Tryz.prog 27 1) (1, false, 1) := ⟨by kernel_rfl⟩
instance T.fld_27_2 : Has (fldK Tryz.prog 27 2) (2, false, 1) := ⟨by kernel_rfl⟩
instance T.fld_80_0 : Has (fldK Tryz.prog 80 0) (0, true, 6) := ⟨by kernel_rfl⟩
instance T.mth_80_225 : Has (methK Tryz.prog 80 "bogie/formula.apply") 225 := ⟨by kernel_rfl⟩
instance T.mth_80_226 : Has (methK Tryz.prog 80 "bogie/formula.choose") 226 := ⟨by kernel_rfl⟩
instance T.mth_80_227 : Has (methK Tryz.prog 80 "bogie/formula.letter") 227 := ⟨by kernel_rfl⟩
instance T.mth_80_228 : Has (methK Tryz.prog 80 "bogie/formula.number") 228 := ⟨by kernel_rfl⟩
instance T.pl_32 : Has (plK Tryz.prog 32) [(0, 1), (1, 1)] := ⟨by kernel_rfl⟩
instance T.pl_80 : Has (plK Tryz.prog 80) [(0, 6)] := ⟨by kernel_rfl⟩
theorem T.stk_80 : structK Tryz.prog 80 = true := by kernel_rfl
instance T.ty_25 : Has (tyK Tryz.prog 25) (false, 1) := ⟨by kernel_rfl⟩
instance T.ty_27 : Has (tyK Tryz.prog 27) (true, 3) := ⟨by kernel_rfl⟩
instance T.ty_64 : Has (tyK Tryz.prog 64) (false, 1) := ⟨by kernel_rfl⟩
instance T.ty_85 : Has (tyK Tryz.prog 85) (false, 1) := ⟨by kernel_rfl⟩
instance T.und_158 : Has (Tryz.prog.underlying 158) (.slice 85) := ⟨by kernel_rfl⟩
instance T.und_25 : Has (Tryz.prog.underlying 25) (.slice 27) := ⟨by kernel_rfl⟩
instance T.und_64 : Has (Tryz.prog.underlying 64) (.slice 32) := ⟨by kernel_rfl⟩
instance T.und_65 : Has (Tryz.prog.underlying 65) (.slice 3) := ⟨by kernel_rfl⟩
instance T.und_85 : Has (Tryz.prog.underlying 85) (.int .i64) := ⟨by kernel_rfl⟩
instance T.zero_27 : Has (zeroK Tryz.prog 27) [.int .i64 0, .int .i64 0, .slice none 0 0] := ⟨by kernel_rfl⟩
instance T.zero_32 : Has (zeroK Tryz.prog 32) [.int .i64 0, .int .i64 0] := ⟨by kernel_rfl⟩
instance T.zero_64 : Has (zeroK Tryz.prog 64) [.slice none 0 0] := ⟨by kernel_rfl⟩
instance T.zero_80 : Has (zeroK Tryz.prog 80) [.int .i64 0, .int .i64 0, .int .i64 0, .int .i64 0, .int .i64 0, .int .i64 0] := ⟨by kernel_rfl⟩
instance T.zero_85 : Has (zeroK Tryz.prog 85) [.int .i64 0] := ⟨by kernel_rfl⟩
theorem ivValid (I : IMap) (x : Ivl) :
    FnV Tryz.prog 61 #[.agg x.cells.toArray] I (.bool (ivOk x)) := by
 refine enter Tryz.func61 Tryz.call61 rfl Tryz.ntmps61 rfl (fun w0 => ?_)
 refine go 3 ?_
 refine o_box _ rfl rfl rfl (fun g1 => ?_)
 refine go 9 ?_
 refine sxb 6 rfl (fun h6 p6 => ?_) (fun h6 p6 => ?_)
 ·refine go 7 ?_
  refine sxb 13 rfl (fun h13 p13 => ?_) (fun h13 p13 => ?_)
  ·refine go 8 ?_
   refine fin1 rfl rfl ?_
   exact q_v (congrArg Value.bool (by simp only [ivOk, h6, h13, bS]))
  ·refine go 8 ?_
   refine fin1 rfl rfl ?_
   exact q_v (congrArg Value.bool (by simp only [ivOk, h6, h13, bS]))
 ·refine go 15 ?_
  refine fin1 rfl rfl ?_
  exact q_v (congrArg Value.bool (by simp only [ivOk, h6, bS]))

theorem ivSat (I : IMap) (n : Int) :
    FnV Tryz.prog 63 #[.int .i64 (n)] I (.int .i64 (satI n)) := by
 refine enter Tryz.func63 Tryz.call63 rfl Tryz.ntmps63 rfl (fun w0 => ?_)
 refine go 8 ?_
 refine o_v rfl (OV.cast (u := .int .i64 (min n (1000000000000 : Int))) (v_imin rfl rfl) (congrArg (Value.int .i64) (by omega))) ?_
 refine o_v rfl (OV.cast (u := .int .i64 (satI n)) (v_imax rfl rfl) (congrArg (Value.int .i64) (by unfold satI; omega))) ?_
 refine go 4 ?_
 refine fin1 rfl rfl ?_
 exact q_v rfl

theorem iv_plus (I : IMap) (a b : Int) (ha : -(1000000000000 : Int) ≤ a ∧ a ≤ (1000000000000 : Int)) (hb : -(1000000000000 : Int) ≤ b ∧ b ≤ (1000000000000 : Int)) :
    FnV Tryz.prog 34 #[.int .i64 (a), .int .i64 (b)] I (.int .i64 (satI (a + b))) := by
 refine enter Tryz.func34 Tryz.call34 rfl Tryz.ntmps34 rfl (fun w0 => ?_)
 refine go 11 ?_
 refine o_callV (ivSat _ _) rfl rfl ?_
 refine go 4 ?_
 refine fin1 rfl rfl ?_
 exact q_v rfl

theorem iv_minus (I : IMap) (a b : Int) (ha : -(1000000000000 : Int) ≤ a ∧ a ≤ (1000000000000 : Int)) (hb : -(1000000000000 : Int) ≤ b ∧ b ≤ (1000000000000 : Int)) :
    FnV Tryz.prog 234 #[.int .i64 (a), .int .i64 (b)] I (.int .i64 (satI (a - b))) := by
 refine enter Tryz.func234 Tryz.call234 rfl Tryz.ntmps234 rfl (fun w0 => ?_)
 refine go 11 ?_
 refine o_callV (ivSat _ _) rfl rfl ?_
 refine go 4 ?_
 refine fin1 rfl rfl ?_
 exact q_v rfl

theorem bitsMul64 (I : IMap) (x y : Nat) (hx : x < 18446744073709551616) (hy : y < 18446744073709551616) :
    FnV Tryz.prog 238 #[.int .u64 ((x : Nat) : Int), .int .u64 ((y : Nat) : Int)] I (.tuple #[.int .u64 ((x * y / 18446744073709551616 : Nat) : Int), .int .u64 ((x * y % 18446744073709551616 : Nat) : Int)]) := by
 obtain ⟨bd, bt, bw, hhi⟩ := Lib.mul64_hi x y hx hy
 have ba := Lib.half_mul_le (a := x / 4294967296) (b := y / 4294967296) (by omega) (by omega)
 have bb := Lib.half_mul_le (a := x / 4294967296) (b := y % 4294967296) (by omega) (by omega)
 have bc := Lib.half_mul_le (a := x % 4294967296) (b := y / 4294967296) (by omega) (by omega)
 refine enter Tryz.func238 Tryz.call238 rfl Tryz.ntmps238 rfl (fun w0 => ?_)
 refine go 9 ?_
 refine o_v rfl (v_lowN hx rfl) ?_
 refine go 6 ?_
 refine o_v rfl (v_hiN rfl) ?_
 refine go 6 ?_
 refine o_v rfl (v_lowN hy rfl) ?_
 refine go 6 ?_
 refine o_v rfl (v_hiN rfl) ?_
 refine go 7 ?_
 refine o_v rfl (v_mulN rfl rfl bd) ?_
 refine go 7 ?_
 refine o_v rfl (v_mulN rfl rfl (by omega)) ?_
 refine go 1 ?_
 refine o_v rfl (v_hiN rfl) ?_
 refine o_v rfl (v_addN rfl rfl bt) ?_
 refine go 6 ?_
 refine o_v rfl (v_lowN bt rfl) ?_
 refine go 6 ?_
 refine o_v rfl (v_hiN rfl) ?_
 refine go 8 ?_
 refine o_v rfl (v_mulN rfl rfl (by omega)) ?_
 refine o_v rfl (v_addN rfl rfl bw) ?_
 refine go 7 ?_
 refine o_v rfl (v_mulN rfl rfl (by omega)) ?_
 refine go 1 ?_
 refine o_v rfl (v_addN rfl rfl (by omega)) ?_
 refine go 1 ?_
 refine o_v rfl (v_hiN rfl) ?_
 refine o_v rfl (v_addN rfl rfl (by omega)) ?_
 refine go 7 ?_
 refine o_v rfl (v_mulW rfl rfl) ?_
 refine go 4 ?_
 refine fin2 rfl rfl rfl ?_
 exact q_v (by rw [hhi])

theorem iv_times (I : IMap) (a b : Int) (ha : -(1000000000000 : Int) ≤ a ∧ a ≤ (1000000000000 : Int)) (hb : -(1000000000000 : Int) ≤ b ∧ b ≤ (1000000000000 : Int)) :
    FnV Tryz.prog 235 #[.int .i64 (a), .int .i64 (b)] I (.int .i64 (satI (a * b))) := by
 refine enter Tryz.func235 Tryz.call235 rfl Tryz.ntmps235 rfl (fun w0 => ?_)
 refine go 9 ?_
 refine o_v rfl (v_neg rfl ⟨by omega, by omega⟩) ?_
 refine o_v rfl (OV.cast (u := .int .i64 (((a.natAbs : Nat) : Int))) (v_imax rfl rfl) (congrArg (Value.int .i64) (by omega))) ?_
 refine o_v rfl (v_conv he he rfl (m := ((a.natAbs : Nat) : Int)) (wrap_u64 _ (by omega) (by omega))) ?_
 refine go 2 ?_
 refine o_v rfl (v_neg rfl ⟨by omega, by omega⟩) ?_
 refine o_v rfl (OV.cast (u := .int .i64 (((b.natAbs : Nat) : Int))) (v_imax rfl rfl) (congrArg (Value.int .i64) (by omega))) ?_
 refine o_v rfl (v_conv he he rfl (m := ((b.natAbs : Nat) : Int)) (wrap_u64 _ (by omega) (by omega))) ?_
 refine go 1 ?_
 refine o_callV (bitsMul64 _ a.natAbs b.natAbs (by omega) (by omega)) rfl rfl ?_
 refine go 13 ?_
 refine c_cut (I' := I) (L' := [(0, .int .i64 (a)), (1, .int .i64 (b)), (7, .int .i64 (min ((a.natAbs * b.natAbs : Nat) : Int) (1000000000000 : Int)))]) (H' := []) ?_ ?_
 ·refine go 5 ?_
  refine sxb 24 rfl (fun h24 p24 => ?_) (fun h24 p24 => ?_)
  ·refine go 5 ?_
   refine cb rfl (fun h27 p27 => ?_) (fun h27 p27 => ?_)
   ·refine go 2 ?_
    refine o_v rfl (v_conv he he rfl (m := ((a.natAbs * b.natAbs % 18446744073709551616 : Nat) : Int)) (by rw [IntKind.wrap_i64]; omega)) ?_
    refine go 3 ?_
    exact q_cut ⟨rfl, rfl, (congrArg (fun z => some (Value.int .i64 z)) (by omega)), trivial⟩ rfl rfl
   ·refine go 2 ?_
    exact q_cut ⟨rfl, rfl, (congrArg (fun z => some (Value.int .i64 z)) (by omega)), trivial⟩ rfl rfl
  ·refine go 5 ?_
   refine c_false rfl ?_
   refine go 2 ?_
   exact q_cut ⟨rfl, rfl, (congrArg (fun z => some (Value.int .i64 z)) (by omega)), trivial⟩ rfl rfl
 ·refine go 7 ?_
  refine o_v rfl (v_bneq he rfl rfl) ?_
  refine go 2 ?_
  refine cb rfl (fun h34 p34 => ?_) (fun h34 p34 => ?_)
  ·refine go 3 ?_
   refine o_v rfl (v_neg rfl ⟨by omega, by omega⟩) ?_
   refine go 5 ?_
   refine fin1 rfl rfl ?_
   exact q_v (congrArg (Value.int .i64) (sat_neg h34))
  ·refine go 9 ?_
   refine fin1 rfl rfl ?_
   exact q_v (congrArg (Value.int .i64) (sat_pos h34))

theorem sl_min (I : IMap) (v : Value) (l : List Int) (hv : RdS I v l) (h0 : 0 < l.length) :
    FnV Tryz.prog 103 #[v] I (.int .i64 (minN l (l.length - 1))) := by
 obtain ⟨A, c0, rfl, hA, hc, hm⟩ := hv
 refine enter Tryz.func103 Tryz.call103 rfl Tryz.ntmps103 rfl (fun w0 => ?_)
 refine go 13 ?_
 refine cb rfl (fun h7 p7 => ?_) (fun h7 p7 => ?_)
 ·exfalso; omega
 ·refine go 5 ?_
  obtain ⟨b10, o10, w10, e10, c10, r10⟩ := RdA.at_ hA (i := 0) (by omega)
  obtain rfl := r10
  refine o_v rfl (v_idx he rfl rfl e10 (0) (by omega) (by omega)) ?_
  refine o_v rfl (v_ldI he rfl (c10 0 _ rfl)) ?_
  refine go 10 ?_
  refine c_loop (α := Nat) 0 (fun i => I)
   (fun i => [(0, .slice A l.length c0), (3, .int .i64 (minN l i)), (4, .int .i64 ((i + 1 : Nat) : Int))])
   (fun i => [])
   (fun i => i < l.length)
   (fun i => l.length - i) h0 rfl ⟨rfl, by rw [minN_zero h0]; rfl, rfl, trivial⟩ rfl ?_
  intro i hx
  refine go 9 ?_
  refine cb rfl (fun h15 p15 => ?_) (fun h15 p15 => ?_)
  ·refine go 8 ?_
   obtain ⟨b21, o21, w21, e21, c21, r21⟩ := RdA.at_ hA (i := i + 1) (by omega)
   obtain rfl := r21
   refine o_v rfl (v_idx he rfl rfl e21 (i + 1) (by omega) (by omega)) ?_
   refine o_v rfl (v_ldI he rfl (c21 0 _ rfl)) ?_
   refine o_v rfl (OV.cast (u := .int .i64 (minN l (i + 1))) (v_imin rfl rfl) (congrArg (Value.int .i64) (minN_step (by omega)))) ?_
   refine go 10 ?_
   exact q_next (i + 1) (by omega) (by omega) rfl sb rfl
  ·obtain rfl : i = l.length - 1 := by omega
   refine go 12 ?_
   refine fin1 rfl rfl ?_
   exact q_v rfl

theorem sl_max (I : IMap) (v : Value) (l : List Int) (hv : RdS I v l) (h0 : 0 < l.length) :
    FnV Tryz.prog 104 #[v] I (.int .i64 (maxN l (l.length - 1))) := by
 obtain ⟨A, c0, rfl, hA, hc, hm⟩ := hv
 refine enter Tryz.func104 Tryz.call104 rfl Tryz.ntmps104 rfl (fun w0 => ?_)
 refine go 13 ?_
 refine cb rfl (fun h7 p7 => ?_) (fun h7 p7 => ?_)
 ·exfalso; omega
 ·refine go 5 ?_
  obtain ⟨b10, o10, w10, e10, c10, r10⟩ := RdA.at_ hA (i := 0) (by omega)
  obtain rfl := r10
  refine o_v rfl (v_idx he rfl rfl e10 (0) (by omega) (by omega)) ?_
  refine o_v rfl (v_ldI he rfl (c10 0 _ rfl)) ?_
  refine go 10 ?_
  refine c_loop (α := Nat) 0 (fun i => I)
   (fun i => [(0, .slice A l.length c0), (3, .int .i64 (maxN l i)), (4, .int .i64 ((i + 1 : Nat) : Int))])
   (fun i => [])
   (fun i => i < l.length)
   (fun i => l.length - i) h0 rfl ⟨rfl, by rw [maxN_zero h0]; rfl, rfl, trivial⟩ rfl ?_
  intro i hx
  refine go 9 ?_
  refine cb rfl (fun h15 p15 => ?_) (fun h15 p15 => ?_)
  ·refine go 8 ?_
   obtain ⟨b21, o21, w21, e21, c21, r21⟩ := RdA.at_ hA (i := i + 1) (by omega)
   obtain rfl := r21
   refine o_v rfl (v_idx he rfl rfl e21 (i + 1) (by omega) (by omega)) ?_
   refine o_v rfl (v_ldI he rfl (c21 0 _ rfl)) ?_
   refine o_v rfl (OV.cast (u := .int .i64 (maxN l (i + 1))) (v_imax rfl rfl) (congrArg (Value.int .i64) (maxN_step (by omega)))) ?_
   refine go 10 ?_
   exact q_next (i + 1) (by omega) (by omega) rfl sb rfl
  ·obtain rfl : i = l.length - 1 := by omega
   refine go 12 ?_
   refine fin1 rfl rfl ?_
   exact q_v rfl

theorem ivAround (I : IMap) (v : Value) (l : List Int) (hv : RdS I v l) (h0 : 0 < l.length) :
    FnV Tryz.prog 62 #[v] I (.agg #[.int .i64 (minN l (l.length - 1)), .int .i64 (maxN l (l.length - 1))]) := by
 refine enter Tryz.func62 Tryz.call62 rfl Tryz.ntmps62 rfl (fun w0 => ?_)
 refine go 3 ?_
 refine o_alloc he rfl (fun g2 => ?_)
 refine go 6 ?_
 refine o_callV (sl_min _ _ l hv h0) rfl rfl ?_
 refine go 2 ?_
 refine o_callV (sl_max _ _ l hv h0) rfl rfl ?_
 refine go 1 ?_
 refine o_val rfl (v_build (pl := [(0, 1), (1, 1)]) he he rfl rfl) ?_
 refine go 1 ?_
 refine o_stw _ he rfl rfl rfl rfl rfl rfl ?_
 refine go 3 ?_
 refine fin1 rfl ⟨_, _, _, rfl, m0, .inr ⟨_, he, rfl, rfl⟩⟩ ?_
 exact q_v rfl

theorem ivBoth (I : IMap) (a b : Ivl) (g : FuncId) (f : Int → Int → Int) (hf : ∀ x y, (-(1000000000000 : Int) ≤ x ∧ x ≤ (1000000000000 : Int)) → (-(1000000000000 : Int) ≤ y ∧ y ≤ (1000000000000 : Int)) → FnV Tryz.prog g #[.int .i64 (x), .int .i64 (y)] I (.int .i64 (f x y))) :
    FnV Tryz.prog 33 #[.agg a.cells.toArray, .agg b.cells.toArray, .func (.func g) #[] #[]] I (.agg (bothI f a b).cells.toArray) := by
 refine enter Tryz.func33 Tryz.call33 rfl Tryz.ntmps33 rfl (fun w0 => ?_)
 refine go 3 ?_
 refine o_box _ rfl rfl rfl (fun g3 => ?_)
 refine go 1 ?_
 refine o_box _ rfl rfl rfl (fun g4 => ?_)
 refine go 1 ?_
 refine o_alloc he rfl (fun g6 => ?_)
 refine go 4 ?_
 refine c_cut (I' := I) (L' := [(2, .func (.func g) #[] #[]), (3, .pointer (some ⟨g3, 0, none⟩)), (4, .pointer (some ⟨g4, 0, none⟩)), (6, .pointer (some ⟨g6, 0, none⟩)), (18, .bool (!ivOk a || !ivOk b))]) (H' := [.blk g3 32 a.cells, .blk g4 32 b.cells, .blk g6 32 [.int .i64 (0), .int .i64 (0)]]) ?_ ?_
 ·refine go 3 ?_
  refine o_callV (ivValid _ a) rfl rfl ?_
  refine go 2 ?_
  refine sxb 14 rfl (fun h14 p14 => ?_) (fun h14 p14 => ?_)
  ·refine go 6 ?_
   refine bring1 ?_
   refine bring2 ?_
   exact q_cut ⟨rfl, rfl, rfl, rfl, (congrArg (fun b => some (Value.bool b)) (by simp only [h14, bS])), trivial⟩ rfl rfl
  ·refine go 2 ?_
   refine o_yes rfl rfl h14 (o_callV (ivValid _ b) rfl rfl ?_)
   refine go 4 ?_
   refine bring1 ?_
   refine bring2 ?_
   exact q_cut ⟨rfl, rfl, rfl, rfl, (congrArg (fun b => some (Value.bool b)) (by simp only [h14, bS])), trivial⟩ rfl rfl
 ·refine cb rfl (fun h18 p18 => ?_) (fun h18 p18 => ?_)
  ·refine go 3 ?_
   refine o_val rfl (v_build (pl := [(0, 1), (1, 1)]) he he rfl rfl) ?_
   refine go 1 ?_
   refine bring2 ?_
   refine o_stw _ he rfl rfl rfl rfl rfl rfl ?_
   refine go 4 ?_
   refine fin1 rfl ⟨_, _, _, rfl, m0, .inr ⟨_, he, rfl, rfl⟩⟩ ?_
   exact q_v (by rw [both_no h18]; rfl)
  ·obtain ⟨⟨ha1, ha2⟩, hb1, hb2⟩ := both_in h18
   refine go 3 ?_
   refine d_startH T.mixed ?_
   refine d_tv 0 rfl rfl (by kernel_rfl) rfl (.refl _) rfl (v_fieldAddr he rfl) ?_
   refine d_tv 1 rfl rfl (by kernel_rfl) rfl (.refl _) rfl (v_ld m0 he rfl rfl) ?_
   refine d_tv 2 rfl rfl (by kernel_rfl) rfl (.refl _) rfl (v_fieldAddr he rfl) ?_
   refine d_tv 3 rfl rfl (by kernel_rfl) rfl (.refl _) rfl (v_ld m0 he rfl rfl) ?_
   refine d_tv 4 rfl rfl (by kernel_rfl) rfl (.refl _) rfl (v_fieldAddr he rfl) ?_
   refine d_tv 5 rfl rfl (by kernel_rfl) rfl (.refl _) rfl (v_ld m1 he rfl rfl) ?_
   refine d_tv 6 rfl rfl (by kernel_rfl) rfl (.refl _) rfl (v_fieldAddr he rfl) ?_
   refine d_tv 7 rfl rfl (by kernel_rfl) rfl (.refl _) rfl (v_ld m1 he rfl rfl) ?_
   refine d_tv 8 rfl rfl (by kernel_rfl) rfl (.refl _) rfl (v_assign rfl) ?_
   refine d_tv 9 rfl rfl (by kernel_rfl) rfl (.refl _) rfl (v_assign rfl) ?_
   refine d_tv 10 rfl rfl (by kernel_rfl) rfl (.refl _) rfl (v_assign rfl) ?_
   refine d_tv 11 rfl rfl (by kernel_rfl) rfl (.refl _) rfl (v_assign rfl) ?_
   refine d_done (by kernel_rfl) ?_
   refine go 7 ?_
   refine o_callV (hf _ _ ha1 hb1) rfl rfl ?_
   refine go 4 ?_
   refine o_callV (hf _ _ ha1 hb2) rfl rfl ?_
   refine go 4 ?_
   refine o_callV (hf _ _ ha2 hb1) rfl rfl ?_
   refine go 4 ?_
   refine o_callV (hf _ _ ha2 hb2) rfl rfl ?_
   refine go 1 ?_
   refine o_buildSlice he he rfl rfl rfl rfl rfl rfl rfl (fun v44 => ?_)
   refine go 1 ?_
   refine o_lendV m0 rfl rfl ((intCs_flat [f a.low b.low, f a.low b.high, f a.high b.low, f a.high b.high])) (fun I2 hI2 hR => ivAround _ _ [f a.low b.low, f a.low b.high, f a.high b.low, f a.high b.high] hR (Nat.zero_lt_succ _)) rfl rfl ?_
   refine go 1 ?_
   refine bring3 ?_
   refine o_stw _ he rfl rfl rfl rfl rfl rfl ?_
   refine go 3 ?_
   refine fin1 rfl ⟨_, _, _, rfl, m0, .inr ⟨_, he, rfl, rfl⟩⟩ ?_
   exact q_v (by rw [both_yes h18]; rfl)

theorem ivAdd (I : IMap) (a b : Ivl) :
    FnV Tryz.prog 14 #[.agg a.cells.toArray, .agg b.cells.toArray] I (.agg (addI a b).cells.toArray) := by
 refine enter Tryz.func14 Tryz.call14 rfl Tryz.ntmps14 rfl (fun w0 => ?_)
 refine go 3 ?_
 refine o_box _ rfl rfl rfl (fun g2 => ?_)
 refine go 1 ?_
 refine o_box _ rfl rfl rfl (fun g3 => ?_)
 refine go 1 ?_
 refine o_alloc he rfl (fun g4 => ?_)
 refine go 7 ?_
 refine o_callV (ivBoth _ a b _ _ (fun x y hx hy => iv_plus _ x y hx hy)) rfl rfl ?_
 refine go 1 ?_
 refine o_stw _ he rfl rfl rfl rfl rfl rfl ?_
 refine go 3 ?_
 refine fin1 rfl ⟨_, _, _, rfl, m0, .inr ⟨_, he, rfl, rfl⟩⟩ ?_
 exact q_v rfl

theorem ivSub (I : IMap) (a b : Ivl) :
    FnV Tryz.prog 229 #[.agg a.cells.toArray, .agg b.cells.toArray] I (.agg (subI a b).cells.toArray) := by
 refine enter Tryz.func229 Tryz.call229 rfl Tryz.ntmps229 rfl (fun w0 => ?_)
 refine go 3 ?_
 refine o_box _ rfl rfl rfl (fun g2 => ?_)
 refine go 1 ?_
 refine o_box _ rfl rfl rfl (fun g3 => ?_)
 refine go 1 ?_
 refine o_alloc he rfl (fun g4 => ?_)
 refine go 7 ?_
 refine o_callV (ivBoth _ a b _ _ (fun x y hx hy => iv_minus _ x y hx hy)) rfl rfl ?_
 refine go 1 ?_
 refine o_stw _ he rfl rfl rfl rfl rfl rfl ?_
 refine go 3 ?_
 refine fin1 rfl ⟨_, _, _, rfl, m0, .inr ⟨_, he, rfl, rfl⟩⟩ ?_
 exact q_v rfl

theorem ivMul (I : IMap) (a b : Ivl) :
    FnV Tryz.prog 230 #[.agg a.cells.toArray, .agg b.cells.toArray] I (.agg (mulI a b).cells.toArray) := by
 refine enter Tryz.func230 Tryz.call230 rfl Tryz.ntmps230 rfl (fun w0 => ?_)
 refine go 3 ?_
 refine o_box _ rfl rfl rfl (fun g2 => ?_)
 refine go 1 ?_
 refine o_box _ rfl rfl rfl (fun g3 => ?_)
 refine go 1 ?_
 refine o_alloc he rfl (fun g4 => ?_)
 refine go 7 ?_
 refine o_callV (ivBoth _ a b _ _ (fun x y hx hy => iv_times _ x y hx hy)) rfl rfl ?_
 refine go 1 ?_
 refine o_stw _ he rfl rfl rfl rfl rfl rfl ?_
 refine go 3 ?_
 refine fin1 rfl ⟨_, _, _, rfl, m0, .inr ⟨_, he, rfl, rfl⟩⟩ ?_
 exact q_v rfl

theorem ivJoin (I : IMap) (a b : Ivl) :
    FnV Tryz.prog 233 #[.agg a.cells.toArray, .agg b.cells.toArray] I (.agg (joinI a b).cells.toArray) := by
 refine enter Tryz.func233 Tryz.call233 rfl Tryz.ntmps233 rfl (fun w0 => ?_)
 refine go 3 ?_
 refine o_box _ rfl rfl rfl (fun g2 => ?_)
 refine go 1 ?_
 refine o_box _ rfl rfl rfl (fun g3 => ?_)
 refine go 1 ?_
 refine o_alloc he rfl (fun g4 => ?_)
 refine go 4 ?_
 refine c_cut (I' := I) (L' := [(2, .pointer (some ⟨g2, 0, none⟩)), (3, .pointer (some ⟨g3, 0, none⟩)), (4, .pointer (some ⟨g4, 0, none⟩)), (12, .bool (!ivOk a || !ivOk b))]) (H' := [.blk g2 32 a.cells, .blk g3 32 b.cells, .blk g4 32 [.int .i64 (0), .int .i64 (0)]]) ?_ ?_
 ·refine go 3 ?_
  refine o_callV (ivValid _ a) rfl rfl ?_
  refine go 2 ?_
  refine sxb 8 rfl (fun h8 p8 => ?_) (fun h8 p8 => ?_)
  ·refine go 6 ?_
   refine bring1 ?_
   refine bring2 ?_
   exact q_cut ⟨rfl, rfl, rfl, (congrArg (fun b => some (Value.bool b)) (by simp only [h8, bS])), trivial⟩ rfl rfl
  ·refine go 2 ?_
   refine o_yes rfl rfl h8 (o_callV (ivValid _ b) rfl rfl ?_)
   refine go 4 ?_
   refine bring1 ?_
   refine bring2 ?_
   exact q_cut ⟨rfl, rfl, rfl, (congrArg (fun b => some (Value.bool b)) (by simp only [h8, bS])), trivial⟩ rfl rfl
 ·refine cb rfl (fun h12 p12 => ?_) (fun h12 p12 => ?_)
  ·refine go 3 ?_
   refine o_val rfl (v_build (pl := [(0, 1), (1, 1)]) he he rfl rfl) ?_
   refine go 1 ?_
   refine bring2 ?_
   refine o_stw _ he rfl rfl rfl rfl rfl rfl ?_
   refine go 4 ?_
   refine fin1 rfl ⟨_, _, _, rfl, m0, .inr ⟨_, he, rfl, rfl⟩⟩ ?_
   exact q_v (by rw [join_no h12]; rfl)
  ·refine go 13 ?_
   refine o_buildSlice he he rfl rfl rfl rfl rfl rfl rfl (fun v22 => ?_)
   refine go 1 ?_
   refine o_lendV m0 rfl rfl ((intCs_flat [a.low, a.high, b.low, b.high])) (fun I2 hI2 hR => ivAround _ _ [a.low, a.high, b.low, b.high] hR (Nat.zero_lt_succ _)) rfl rfl ?_
   refine go 1 ?_
   refine bring3 ?_
   refine o_stw _ he rfl rfl rfl rfl rfl rfl ?_
   refine go 3 ?_
   refine fin1 rfl ⟨_, _, _, rfl, m0, .inr ⟨_, he, rfl, rfl⟩⟩ ?_
   exact q_v (by rw [join_yes h12]; rfl)

theorem ivOver (I : IMap) (x : Ivl) (n : Int) :
    FnV Tryz.prog 232 #[.agg x.cells.toArray, .int .i64 (n)] I (.int .i64 (overI x n)) := by
 refine enter Tryz.func232 Tryz.call232 rfl Tryz.ntmps232 rfl (fun w0 => ?_)
 refine go 3 ?_
 refine o_box _ rfl rfl rfl (fun g2 => ?_)
 refine go 6 ?_
 refine c_cut (I' := I) (L' := [(1, .int .i64 (n)), (2, .pointer (some ⟨g2, 0, none⟩)), (5, .bool (!ivOk x || decide (x.high ≤ n)))]) (H' := [.blk g2 32 x.cells]) ?_ ?_
 ·refine go 3 ?_
  refine o_callV (ivValid _ x) rfl rfl ?_
  refine go 2 ?_
  refine sxb 9 rfl (fun h9 p9 => ?_) (fun h9 p9 => ?_)
  ·refine go 8 ?_
   exact q_cut ⟨rfl, rfl, (congrArg (fun b => some (Value.bool b)) (by simp only [h9, bS])), trivial⟩ rfl rfl
  ·refine go 8 ?_
   exact q_cut ⟨rfl, rfl, (congrArg (fun b => some (Value.bool b)) (by simp only [h9, bS])), trivial⟩ rfl rfl
 ·refine cb rfl (fun h5 p5 => ?_) (fun h5 p5 => ?_)
  ·refine go 8 ?_
   refine fin1 rfl rfl ?_
   exact q_v (congrArg (Value.int .i64) (by unfold overI; rw [if_pos h5]))
  ·refine go 9 ?_
   refine cb rfl (fun h15 p15 => ?_) (fun h15 p15 => ?_)
   ·refine go 8 ?_
    refine fin1 rfl rfl ?_
    exact q_v (congrArg (Value.int .i64) (by unfold overI; rw [if_neg (by rw [h5]; decide), if_pos p15]))
   ·refine go 9 ?_
    refine fin1 rfl rfl ?_
    exact q_v (congrArg (Value.int .i64) (by unfold overI; rw [if_neg (by rw [h5]; decide), if_neg p15]))

theorem fmNodes_step (I : IMap) (N : Nat) (ih : ∀ (f : Fm), cntN f ≤ N → ∀ vs, FmRd I vs f → ∀ m : Int, 0 ≤ m → m ≤ 1000 → FnV Tryz.prog 50 #[.agg vs.toArray, .int .i64 (m)] I (.int .i64 (nodesF f m))) (f : Fm) (hN : cntN f ≤ N + 1) (vs : List Value) (hr : FmRd I vs f) (m : Int) (h0 : 0 ≤ m) (h1 : m ≤ 1000) :
    FnV Tryz.prog 50 #[.agg vs.toArray, .int .i64 (m)] I (.int .i64 (nodesF f m)) := by
 obtain ⟨s, rfl, hs⟩ := fm_out hr
 obtain ⟨A, c0, rfl, hA, hc, hm⟩ := hs
 refine enter Tryz.func50 Tryz.call50 rfl Tryz.ntmps50 rfl (fun w0 => ?_)
 refine go 3 ?_
 refine o_box _ rfl rfl rfl (fun g2 => ?_)
 refine go 18 ?_
 refine sx_drop ?_
 refine c_loop2 ((0 : Nat)) ((1 : Int)) (fun i n => I)
  (fun i n => [(1, .int .i64 (m)), (5, .int .i64 (n)), (9, .slice A f.kids.length c0), (10, .int .i64 (f.kids.length : Int)), (11, .int .i64 ((i : Nat) : Int))])
  (fun i n => [])
  (fun i n => i ≤ f.kids.length ∧ (1 ≤ n ∧ n ≤ m + 1) ∧ nodesL (f.kids.drop i) n m = nodesF f m)
  (fun i n => f.kids.length - i) ⟨Nat.zero_le _, ⟨by omega, by omega⟩, nodes_start⟩ rfl sb rfl ?_
 intro i n ⟨hi, hn, hq⟩
 refine go 6 ?_
 refine cb rfl (fun h12 p12 => ?_) (fun h12 p12 => ?_)
 ·have hlt : i < f.kids.length := by omega
  refine go 6 ?_
  obtain ⟨b13, o13, w13, e13, c13, r13⟩ := RdA.at_ hA (i := i) (by omega)
  replace r13 := fm_out r13
  obtain ⟨s13, rfl, hs13⟩ := r13
  refine o_v rfl (v_idx he rfl rfl e13 (i) (by omega) (by omega)) ?_
  refine o_v rfl (v_ldIa he rfl c13 rfl) ?_
  refine go 1 ?_
  refine o_alloc he rfl (fun g7 => ?_)
  refine go 1 ?_
  refine o_stw _ he rfl rfl rfl rfl rfl (Enc.one (α := Fm) (fm_back hs13)) ?_
  refine go 10 ?_
  refine cb rfl (fun h17 p17 => ?_) (fun h17 p17 => ?_)
  ·refine go 14 ?_
   refine fin1 rfl rfl ?_
   exact q_v (congrArg (Value.int .i64) (nodes_stop hlt hq p17))
  ·have hkn := nodes_in f.kids[i] (m - n) (by omega)
   refine go 9 ?_
   refine o_callV (ih f.kids[i] (by have := cnt_kid (List.getElem_mem hlt); omega) _ (fm_back hs13) _ (by omega) (by omega)) rfl rfl ?_
   refine go 10 ?_
   refine sx_drop ?_
   exact q_next2 (i + 1) (_) ⟨by omega, by omega, nodes_step hlt hq p17⟩ (by omega) rfl sb rfl
 ·refine go 12 ?_
  refine fin1 rfl rfl ?_
  exact q_v (congrArg (Value.int .i64) (nodes_end (by omega) hq))

theorem fmNodes (I : IMap) (f : Fm) (vs : List Value) (hr : FmRd I vs f) (m : Int) (h0 : 0 ≤ m) (h1 : m ≤ 1000) : FnV Tryz.prog 50 #[.agg vs.toArray, .int .i64 (m)] I (.int .i64 (nodesF f m)) := by
  have key : ∀ (N : Nat) (f : Fm), cntN f ≤ N → ∀ vs, FmRd I vs f → ∀ m : Int, 0 ≤ m → m ≤ 1000 → FnV Tryz.prog 50 #[.agg vs.toArray, .int .i64 (m)] I (.int .i64 (nodesF f m)) := by
    intro N
    induction N with
    | zero => intro f hN; exact absurd hN (by cases f; simp [cntN])
    | succ N ih => intro f hN vs hr m h0 h1; exact fmNodes_step I N ih f hN vs hr m h0 h1
  exact key (cntN f) f (Nat.le_refl _) vs hr m h0 h1

theorem fmRight_step (I : IMap) (N : Nat) (ih : ∀ (f : Fm), cntN f ≤ N → ∀ vs, FmRd I vs f → FnV Tryz.prog 51 #[.agg vs.toArray] I (.bool (rightF f))) (f : Fm) (hN : cntN f ≤ N + 1) (vs : List Value) (hr : FmRd I vs f) :
    FnV Tryz.prog 51 #[.agg vs.toArray] I (.bool (rightF f)) := by
 obtain ⟨s, rfl, hs⟩ := fm_out hr
 obtain ⟨A, c0, rfl, hA, hc, hm⟩ := hs
 refine enter Tryz.func51 Tryz.call51 rfl Tryz.ntmps51 rfl (fun w0 => ?_)
 refine go 3 ?_
 refine o_box _ rfl rfl rfl (fun g1 => ?_)
 refine go 9 ?_
 refine c_cutx (α := Unit) (Ix := (fun u => I)) (Lx := (fun u => [(1, .pointer (some ⟨g1, 0, none⟩)), (3, .int .i64 (wantF f.op))])) (Hx := (fun u => [.blk g1 27 [ci f.op, ci f.n, .slice A f.kids.length c0]])) (p := (fun u => bad1F f = false)) ?_ ?_
 ·refine go 2 ?_
  refine c_cut (I' := I) (L' := [(1, .pointer (some ⟨g1, 0, none⟩)), (3, .int .i64 (0)), (6, .bool (bad1F f))]) (H' := [.blk g1 27 [ci f.op, ci f.n, .slice A f.kids.length c0]]) ?_ ?_
  ·refine go 5 ?_
   refine sxb 10 rfl (fun h10 p10 => ?_) (fun h10 p10 => ?_)
   ·refine go 7 ?_
    exact q_cut ⟨rfl, rfl, (congrArg (fun b => some (Value.bool b)) (by simp only [bad1F, h10, bS])), trivial⟩ rfl rfl
   ·refine go 7 ?_
    exact q_cut ⟨rfl, rfl, (congrArg (fun b => some (Value.bool b)) (by simp only [bad1F, h10, bS])), trivial⟩ rfl rfl
  ·refine cb rfl (fun h6 p6 => ?_) (fun h6 p6 => ?_)
   ·refine go 8 ?_
    refine fin1 rfl rfl ?_
    exact q_v (congrArg Value.bool (right_b1 h6).symm)
   ·refine go 8 ?_
    refine cb rfl (fun h15 p15 => ?_) (fun h15 p15 => ?_)
    ·refine go 5 ?_
     exact q_cutx () h6 ⟨rfl, (congrArg (fun z => some (Value.int .i64 z)) (by unfold wantF; split <;> (try split) <;> omega)), trivial⟩ rfl rfl
    ·refine go 8 ?_
     refine cb rfl (fun h19 p19 => ?_) (fun h19 p19 => ?_)
     ·refine go 5 ?_
      exact q_cutx () h6 ⟨rfl, (congrArg (fun z => some (Value.int .i64 z)) (by unfold wantF; split <;> (try split) <;> omega)), trivial⟩ rfl rfl
     ·refine go 3 ?_
      exact q_cutx () h6 ⟨rfl, (congrArg (fun z => some (Value.int .i64 z)) (by unfold wantF; split <;> (try split) <;> omega)), trivial⟩ rfl rfl
 ·intro u h6
  refine go 2 ?_
  refine c_cut (I' := I) (L' := [(1, .pointer (some ⟨g1, 0, none⟩)), (47, .bool (bad2F f))]) (H' := [.blk g1 27 [ci f.op, ci f.n, .slice A f.kids.length c0]]) ?_ ?_
  ·refine go 7 ?_
   refine sxb 28 rfl (fun h28 p28 => ?_) (fun h28 p28 => ?_)
   ·refine go 21 ?_
    exact q_cut ⟨rfl, (congrArg (fun b => some (Value.bool b)) (by simp only [bad2F, h28, bS])), trivial⟩ rfl rfl
   ·refine go 5 ?_
    refine sxb 33 rfl (fun h33 p33 => ?_) (fun h33 p33 => ?_)
    ·refine go 16 ?_
     exact q_cut ⟨rfl, (congrArg (fun b => some (Value.bool b)) (by simp only [bad2F, h28, h33, bS])), trivial⟩ rfl rfl
    ·refine go 5 ?_
     refine sxb 38 rfl (fun h38 p38 => ?_) (fun h38 p38 => ?_)
     ·refine go 11 ?_
      exact q_cut ⟨rfl, (congrArg (fun b => some (Value.bool b)) (by simp only [bad2F, h28, h33, h38, bS])), trivial⟩ rfl rfl
     ·refine go 4 ?_
      refine sxb 42 rfl (fun h42 p42 => ?_) (fun h42 p42 => ?_)
      ·refine go 7 ?_
       exact q_cut ⟨rfl, (congrArg (fun b => some (Value.bool b)) (by simp only [bad2F, h28, h33, h38, h42, bS])), trivial⟩ rfl rfl
      ·refine go 7 ?_
       exact q_cut ⟨rfl, (congrArg (fun b => some (Value.bool b)) (by simp only [bad2F, h28, h33, h38, h42, bS])), trivial⟩ rfl rfl
  ·refine cb rfl (fun h47 p47 => ?_) (fun h47 p47 => ?_)
   ·refine go 7 ?_
    refine fin1 rfl rfl ?_
    exact q_v (congrArg Value.bool (right_b2 h47).symm)
   ·refine go 12 ?_
    refine sx_drop ?_
    refine c_loop (α := Nat) 0 (fun i => I)
     (fun i => [(49, .slice A f.kids.length c0), (50, .int .i64 (f.kids.length : Int)), (51, .int .i64 ((i : Nat) : Int))])
     (fun i => [])
     (fun i => i ≤ f.kids.length ∧ allP (fun _ k => rightF k) f.kids i = true)
     (fun i => f.kids.length - i) ⟨Nat.zero_le _, rfl⟩ rfl sb rfl ?_
    intro i ⟨hi, hn⟩
    refine go 6 ?_
    refine cb rfl (fun h52 p52 => ?_) (fun h52 p52 => ?_)
    ·have hlt : i < f.kids.length := by omega
     refine go 6 ?_
     obtain ⟨b53, o53, w53, e53, c53, r53⟩ := RdA.at_ hA (i := i) (by omega)
     replace r53 := fm_out r53
     obtain ⟨s53, rfl, hs53⟩ := r53
     refine o_v rfl (v_idx he rfl rfl e53 (i) (by omega) (by omega)) ?_
     refine o_v rfl (v_ldIa he rfl c53 rfl) ?_
     refine go 1 ?_
     refine o_alloc he rfl (fun g5 => ?_)
     refine go 1 ?_
     refine o_stw _ he rfl rfl rfl rfl rfl (Enc.one (α := Fm) (fm_back hs53)) ?_
     refine go 6 ?_
     refine o_callV (ih f.kids[i] (by have := cnt_kid (List.getElem_mem hlt); omega) _ (fm_back hs53)) rfl rfl ?_
     refine go 3 ?_
     refine cb rfl (fun h57 p57 => ?_) (fun h57 p57 => ?_)
     ·refine go 11 ?_
      refine fin1 rfl rfl ?_
      exact q_v (congrArg Value.bool (right_kid hlt (by simpa using h57)).symm)
     ·refine go 8 ?_
      refine sx_drop ?_
      exact q_next (i + 1) ⟨by omega, allP_succ (f := fun _ k => rightF k) hn hlt (by simpa using h57)⟩ (by omega) rfl sb rfl
    ·refine go 11 ?_
     refine fin1 rfl rfl ?_
     have e : i = f.kids.length := (by omega)
     subst e
     exact q_v (congrArg Value.bool (right_all h6 h47 hn).symm)

theorem fmRight (I : IMap) (f : Fm) (vs : List Value) (hr : FmRd I vs f) : FnV Tryz.prog 51 #[.agg vs.toArray] I (.bool (rightF f)) := by
  have key : ∀ (N : Nat) (f : Fm), cntN f ≤ N → ∀ vs, FmRd I vs f → FnV Tryz.prog 51 #[.agg vs.toArray] I (.bool (rightF f)) := by
    intro N
    induction N with
    | zero => intro f hN; exact absurd hN (by cases f; simp [cntN])
    | succ N ih => intro f hN vs hr; exact fmRight_step I N ih f hN vs hr
  exact key (cntN f) f (Nat.le_refl _) vs hr

theorem fmValid (I : IMap) (f : Fm) (vs : List Value) (hr : FmRd I vs f) :
    FnV Tryz.prog 25 #[.agg vs.toArray] I (.bool (validFm f)) := by
 have hl := Enc.len (α := Fm) hr
 refine enter Tryz.func25 Tryz.call25 rfl Tryz.ntmps25 rfl (fun w0 => ?_)
 refine go 3 ?_
 refine o_box _ rfl rfl rfl (fun g1 => ?_)
 refine go 5 ?_
 refine o_v rfl (v_ldw m0 he rfl hl) ?_
 refine go 1 ?_
 refine o_callV (fmNodes _ f _ hr 60 (by omega) (by omega)) rfl rfl ?_
 refine go 2 ?_
 refine sxb 6 rfl (fun h6 p6 => ?_) (fun h6 p6 => ?_)
 ·refine o_cons (o_yes rfl rfl h6 (o_val rfl (v_ldw m0 he rfl hl) ?_))
  refine go 1 ?_
  refine o_yes rfl rfl h6 (o_callV (fmRight _ f _ hr) rfl rfl ?_)
  refine go 5 ?_
  refine fin1 rfl rfl ?_
  exact q_v (congrArg Value.bool (by simp only [validFm, h6, bS]))
 ·refine go 7 ?_
  refine fin1 rfl rfl ?_
  exact q_v (congrArg Value.bool (by simp only [validFm, h6, bS]))

theorem fmFloor (I : IMap) (a b : Int) (ha : -(1000000000000 : Int) ≤ a ∧ a ≤ (1000000000000 : Int)) :
    FnV Tryz.prog 237 #[.int .i64 (a), .int .i64 (b)] I (.int .i64 (floorI a b)) := by
 refine enter Tryz.func237 Tryz.call237 rfl Tryz.ntmps237 rfl (fun w0 => ?_)
 refine go 12 ?_
 refine cb rfl (fun h7 p7 => ?_) (fun h7 p7 => ?_)
 ·refine go 7 ?_
  refine fin1 rfl rfl ?_
  exact q_v (congrArg (Value.int .i64) (floor_z p7).symm)
 ·have htd := tdiv_in (a := a) (b := b)
  refine go 6 ?_
  refine o_v rfl (v_quo rfl rfl p7 ⟨by omega, by omega⟩) ?_
  refine go 5 ?_
  refine c_cut (I' := I) (L' := [(5, .int .i64 (a.tdiv b)), (22, .bool (floorB a b))]) (H' := []) ?_ ?_
  ·refine go 3 ?_
   refine o_v rfl (v_mul rfl rfl ⟨by omega, by omega⟩) ?_
   refine go 3 ?_
   refine sxb 16 rfl (fun h16 p16 => ?_) (fun h16 p16 => ?_)
   ·refine go 4 ?_
    refine o_cons (o_yes rfl rfl h16 (o_val rfl (v_bneq he rfl rfl) ?_))
    refine go 3 ?_
    exact q_cut ⟨rfl, (congrArg (fun b => some (Value.bool b)) (by simp only [floorB, h7, h16, bS])), trivial⟩ rfl rfl
   ·refine go 8 ?_
    exact q_cut ⟨rfl, (congrArg (fun b => some (Value.bool b)) (by simp only [floorB, h7, h16, bS])), trivial⟩ rfl rfl
  ·refine cb rfl (fun h22 p22 => ?_) (fun h22 p22 => ?_)
   ·refine go 13 ?_
    refine fin1 rfl rfl ?_
    exact q_v (congrArg (Value.int .i64) (floor_y p7 h22))
   ·refine go 9 ?_
    refine fin1 rfl rfl ?_
    exact q_v (congrArg (Value.int .i64) (floor_n p7 h22))

theorem fmSigned (I : IMap) (a : Ivl) (ha : ivOk a = true) (low high : Int) (g2 g5 : Nat) (A0 : Option Addr) (k0 : Nat) (l : List Ivl) (hl : l.length ≤ 1000) :
    FnH Tryz.prog 236 #[.int .i64 (low), .int .i64 (high), .pointer (some ⟨g2, 0, none⟩), .pointer (some ⟨g5, 0, none⟩)] I [.blk g2 32 a.cells, .blk g5 64 [.slice A0 l.length k0], .row (.slice A0 l.length k0) 32 2 (l).length (ivCs (l))] (fun u _ H2 => u = .tuple #[] ∧ ∃ A k, H2 = [.blk g2 32 a.cells, .blk g5 64 [.slice A (l ++ signedI a low high).length k], .row (.slice A (l ++ signedI a low high).length k) 32 2 (l ++ signedI a low high).length (ivCs (l ++ signedI a low high))]) := by
 refine enter Tryz.func236 Tryz.call236 rfl Tryz.ntmps236 rfl (fun w0 => ?_)
 refine go 7 ?_
 refine cb rfl (fun h12 p12 => ?_) (fun h12 p12 => ?_)
 ·have hsg : signedI a low high = [quoI a low, quoI a high] := if_pos p12
  refine go 5 ?_
  refine o_buildSlice he he rfl rfl rfl rfl rfl rfl rfl (fun v15 => ?_)
  refine sx_pubrow (l := [low, high]) rfl rfl ((.cons rfl (.one rfl))) (fun I15 j15 R15 => ?_)
  obtain ⟨A15, c15, rfl, hA15, _, _⟩ := R15
  refine go 5 ?_
  refine c_loop3 ((0 : Nat)) (A0) (k0) (fun i A1 k1 => I15)
   (fun i A1 k1 => [(2, .pointer (some ⟨g2, 0, none⟩)), (3, .pointer (some ⟨g5, 0, none⟩)), (15, .slice A15 [low, high].length c15), (16, .int .i64 ([low, high].length : Int)), (17, .int .i64 ((i : Nat) : Int))])
   (fun i A1 k1 => [.blk g2 32 a.cells, .blk g5 64 [.slice A1 (l ++ [quoI a low, quoI a high].take i).length k1], .row (.slice A1 (l ++ [quoI a low, quoI a high].take i).length k1) 32 2 (l ++ [quoI a low, quoI a high].take i).length (ivCs (l ++ [quoI a low, quoI a high].take i))])
   (fun i A1 k1 => i ≤ 2)
   (fun i A1 k1 => 2 - i) (by omega) rfl sb (by simp) ?_
  intro i A1 k1 hi
  refine go 6 ?_
  refine cb rfl (fun h18 p18 => ?_) (fun h18 p18 => ?_)
  ·have hlt : i < 2 := by simp at p18; omega
   have hai := ivOk_iff.1 ha
   obtain ⟨d, hd⟩ : ∃ d, [low, high][i] = d := ⟨_, rfl⟩
   have hst : [quoI a low, quoI a high].take (i + 1) = [quoI a low, quoI a high].take i ++ [quoI a d] := by
     have h2 : i = 0 ∨ i = 1 := by omega
     rcases h2 with rfl | rfl <;> (simp at hd; subst hd; rfl)
   refine go 6 ?_
   obtain ⟨b19, o19, w19, e19, c19, r19⟩ := RdA.at_ hA15 (i := i) (by omega)
   obtain rfl := r19
   refine o_v rfl (v_idx he rfl rfl e19 (i) (by omega) (by omega)) ?_
   refine o_v rfl (OV.cast (u := .int .i64 (d)) (v_ldI he rfl (c19 0 _ rfl)) (congrArg (Value.int .i64) hd)) ?_
   refine go 4 ?_
   refine d_startH T.mixed ?_
   refine d_tv 0 rfl rfl (by kernel_rfl) rfl (.refl _) rfl (v_fieldAddr he rfl) ?_
   refine d_tv 1 rfl rfl (by kernel_rfl) rfl (.refl _) rfl (v_ld m0 he rfl rfl) ?_
   refine d_tv 2 rfl rfl (by kernel_rfl) rfl (.refl _) rfl (v_move rfl) ?_
   refine d_tv 4 rfl rfl (by kernel_rfl) rfl (.refl _) rfl (v_fieldAddr he rfl) ?_
   refine d_tv 5 rfl rfl (by kernel_rfl) rfl (.refl _) rfl (v_ld m0 he rfl rfl) ?_
   refine d_tv 6 rfl rfl (by kernel_rfl) rfl (.refl _) rfl (v_move rfl) ?_
   refine d_one 3 (by kernel_rfl) rfl ?_
   refine o_callV (fmFloor _ a.low d (by omega)) rfl rfl ?_
   refine d_on (fun _ m => m.keeps (.refl _)) ?_
   refine d_one 7 (by kernel_rfl) rfl ?_
   refine o_callV (fmFloor _ a.high d (by omega)) rfl rfl ?_
   refine d_on (fun _ m => m.keeps (.refl _)) ?_
   refine d_tv 8 rfl rfl (by kernel_rfl) rfl (.refl _) rfl (v_assign rfl) ?_
   refine d_tv 9 rfl rfl (by kernel_rfl) rfl (.refl _) rfl (v_assign rfl) ?_
   refine d_done (by kernel_rfl) ?_
   refine go 5 ?_
   refine o_v rfl (OV.cast (u := .int .i64 (min (floorI a.low d) (floorI a.high d))) (v_imin rfl rfl) (congrArg (Value.int .i64) (by omega))) ?_
   refine go 2 ?_
   refine o_v rfl (OV.cast (u := .int .i64 (max (floorI a.low d) (floorI a.high d))) (v_imax rfl rfl) (congrArg (Value.int .i64) (by omega))) ?_
   refine go 1 ?_
   refine o_val rfl (v_build (pl := [(0, 1), (1, 1)]) he he rfl rfl) ?_
   refine go 1 ?_
   refine o_buildSlice he he rfl rfl rfl rfl rfl rfl rfl (fun v37 => ?_)
   refine go 1 ?_
   refine bring3 ?_
   refine o_appendO he he rfl rfl rfl rfl rfl (by simp; omega) (by simp; omega) rfl (fun v38 => ?_)
   refine sx_rowslice (fun A38 c38 hv38 => ?_)
   subst hv38
   refine go 1 ?_
   refine bring3 ?_
   refine o_stw _ he rfl rfl rfl rfl rfl rfl ?_
   refine go 8 ?_
   refine bring2 ?_
   refine sx_drop ?_
   refine bring1 ?_
   refine bring1 ?_
   refine bring2 ?_
   exact q_next3 (i + 1) (A38) (c38) (by omega) (by omega) rfl sb (by rw [hst]; simp [ivCs_app, ivCs_one]; exact ⟨by omega, rfl⟩)
  ·refine go 4 ?_
   refine end0 rfl ?_
   have e : i = 2 := (by simp at p18; omega)
   subst e
   exact q_post (fun _ m => m) ⟨rfl, A1, k1, by rw [hsg]; rfl⟩
 ·have hsg : signedI a low high = [] := if_neg p12
  refine go 1 ?_
  refine end0 rfl ?_
  exact q_post (fun _ m => m) ⟨rfl, A0, k0, by rw [hsg, List.append_nil]⟩

theorem fmDivide (I : IMap) (a b : Ivl) (ha : ivOk a = true) (hb : ivOk b = true) :
    FnV Tryz.prog 231 #[.agg a.cells.toArray, .agg b.cells.toArray] I (.agg (divI a b).cells.toArray) := by
 obtain ⟨q0, hq0⟩ : ∃ q0, (if b.low ≤ 0 ∧ b.high ≥ 0 then [zIvl] else []) = q0 := ⟨_, rfl⟩
 have hQ : quosI a b = q0 ++ signedI a (max b.low 1) b.high ++ signedI a b.low (min b.high (-1)) := by rw [← hq0]; rfl
 have hl0 : q0.length ≤ 1 := by rw [← hq0]; split <;> simp
 have hs1 := signed_len a (max b.low 1) b.high
 have hqn : 0 < (quosI a b).length := List.length_pos_iff.2 (quosI_ne (ivOk_iff.1 hb).2.1)
 have hql : (quosI a b).length ≤ 5 := by
   rw [hQ]
   simp only [List.length_append]
   have := signed_len a b.low (min b.high (-1))
   omega
 refine enter Tryz.func231 Tryz.call231 rfl Tryz.ntmps231 rfl (fun w0 => ?_)
 refine go 3 ?_
 refine o_box _ rfl rfl rfl (fun g2 => ?_)
 refine go 1 ?_
 refine o_box _ rfl rfl rfl (fun g3 => ?_)
 refine go 1 ?_
 refine o_alloc he rfl (fun g4 => ?_)
 refine go 5 ?_
 refine o_alloc he rfl (fun g5 => ?_)
 refine go 3 ?_
 refine c_cutx2 (Ix := (fun A k => I)) (Lx := (fun A k => [(2, .pointer (some ⟨g2, 0, none⟩)), (3, .pointer (some ⟨g3, 0, none⟩)), (4, .pointer (some ⟨g4, 0, none⟩)), (5, .pointer (some ⟨g5, 0, none⟩))])) (Hx := (fun A k => [.blk g2 32 a.cells, .blk g5 64 [.slice A q0.length k], .row (.slice A q0.length k) 32 2 (q0).length (ivCs (q0)), .blk g3 32 b.cells, .blk g4 32 [.int .i64 (0), .int .i64 (0)]])) (p := (fun A k => True)) ?_ ?_
 ·refine go 1 ?_
  refine c_cut (I' := I) (L' := [(2, .pointer (some ⟨g2, 0, none⟩)), (3, .pointer (some ⟨g3, 0, none⟩)), (4, .pointer (some ⟨g4, 0, none⟩)), (5, .pointer (some ⟨g5, 0, none⟩)), (17, .bool (decide (b.low ≤ 0) && decide (b.high ≥ 0)))]) (H' := [.blk g5 64 [.slice none 0 0], .blk g4 32 [.int .i64 (0), .int .i64 (0)], .blk g3 32 b.cells, .blk g2 32 a.cells]) ?_ ?_
  ·refine go 5 ?_
   refine sxb 13 rfl (fun h13 p13 => ?_) (fun h13 p13 => ?_)
   ·refine go 6 ?_
    exact q_cut ⟨rfl, rfl, rfl, rfl, (congrArg (fun b => some (Value.bool b)) (by simp only [h13, bS])), trivial⟩ rfl rfl
   ·refine go 6 ?_
    exact q_cut ⟨rfl, rfl, rfl, rfl, (congrArg (fun b => some (Value.bool b)) (by simp only [h13, bS])), trivial⟩ rfl rfl
  ·refine cb rfl (fun h17 p17 => ?_) (fun h17 p17 => ?_)
   ·have hq1 : q0 = [zIvl] := by rw [← hq0, if_pos p17]
    refine go 1 ?_
    refine sx_nilrow 32 2 ?_
    refine go 2 ?_
    refine o_val rfl (v_build (pl := [(0, 1), (1, 1)]) he he rfl rfl) ?_
    refine go 1 ?_
    refine o_buildSlice he he rfl rfl rfl rfl rfl rfl rfl (fun v20 => ?_)
    refine go 1 ?_
    refine bring1 ?_
    refine o_appendO he he rfl rfl rfl rfl rfl (by simp) (by simp) rfl (fun v21 => ?_)
    refine sx_rowslice (fun A21 c21 hv21 => ?_)
    subst hv21
    refine go 1 ?_
    refine bring2 ?_
    refine o_stw _ he rfl rfl rfl rfl rfl rfl ?_
    refine go 2 ?_
    refine bring2 ?_
    refine sx_drop ?_
    refine bring2 ?_
    refine bring3 ?_
    refine bring3 ?_
    refine bring3 ?_
    refine bring4 ?_
    exact q_cutx2 (A21) (c21) trivial sb (by rw [hq1]; rfl) rfl
   ·have hq1 : q0 = [] := by rw [← hq0, if_neg (by simpa using h17)]
    refine sx_nilrow 32 2 ?_
    refine go 2 ?_
    refine bring2 ?_
    refine bring3 ?_
    refine bring2 ?_
    refine bring3 ?_
    refine bring4 ?_
    exact q_cutx2 (none) (0) trivial sb (by rw [hq1]; rfl) rfl
 ·intro A k _
  refine go 2 ?_
  refine o_v rfl (v_makeFunc rfl rfl) ?_
  refine go 8 ?_
  refine o_v rfl (OV.cast (u := .int .i64 (max b.low 1)) (v_imax rfl rfl) (congrArg (Value.int .i64) (by omega))) ?_
  refine go 3 ?_
  refine bring2 ?_
  refine bring2 ?_
  refine bring2 ?_
  refine o_callH3 (fmSigned _ a ha (max b.low 1) b.high g2 g5 _ _ (q0) (by first | omega | (simp only [List.length_append]; omega))) rfl rfl (fun u29 I29 H29 j29 q29 => ?_)
  obtain ⟨rfl, A29, k29, rfl⟩ := q29
  refine sx_app3' ?_
  refine go 9 ?_
  refine o_v rfl (OV.cast (u := .int .i64 (min b.high (-1))) (v_imin rfl rfl) (congrArg (Value.int .i64) (by omega))) ?_
  refine go 1 ?_
  refine bring2 ?_
  refine bring2 ?_
  refine bring2 ?_
  refine o_callH3 (fmSigned _ a ha b.low (min b.high (-1)) g2 g5 _ _ (q0 ++ signedI a (max b.low 1) b.high) (by first | omega | (simp only [List.length_append]; omega))) rfl rfl (fun u36 I36 H36 j36 q36 => ?_)
  obtain ⟨rfl, A36, k36, rfl⟩ := q36
  refine sx_app3' ?_
  rw [← hQ]
  refine bring2 ?_
  refine sx_pubrow (l := quosI a b) rfl rfl (ivCs_flat _) (fun I37 j37 R37 => ?_)
  have hA37 := R37.rda
  refine go 5 ?_
  obtain ⟨b38, o38, w38, e38, c38, r38⟩ := RdA.at_ hA37 (i := 0) hqn
  obtain rfl := r38
  refine o_v rfl (v_idx he rfl rfl e38 (0) rfl hqn) ?_
  refine o_v rfl (v_ldIa he rfl c38 rfl) ?_
  refine go 1 ?_
  refine o_alloc he rfl (fun g7 => ?_)
  refine go 1 ?_
  refine o_stw _ he rfl rfl rfl rfl rfl rfl ?_
  refine go 11 ?_
  refine bring1 ?_
  refine sx_drop ?_
  refine bring1 ?_
  refine sx_drop ?_
  refine bring1 ?_
  refine sx_drop ?_
  refine c_loop2 ((0 : Nat)) ((quosI a b)[0]) (fun i z => I37)
   (fun i z => [(4, .pointer (some ⟨g4, 0, none⟩)), (7, .pointer (some ⟨g7, 0, none⟩)), (40, .slice A36 (quosI a b).length k36), (41, .int .i64 ((quosI a b).length : Int)), (42, .int .i64 ((i : Nat) : Int))])
   (fun i z => [.blk g7 32 z.cells, .blk g4 32 [.int .i64 (0), .int .i64 (0)]])
   (fun i z => i ≤ (quosI a b).length ∧ ((quosI a b).take i).foldl joinI (quosI a b)[0] = z)
   (fun i z => (quosI a b).length - i) ⟨Nat.zero_le _, rfl⟩ rfl sb rfl ?_
  intro i z ⟨hi, hz⟩
  refine go 6 ?_
  refine cb rfl (fun h43 p43 => ?_) (fun h43 p43 => ?_)
  ·have hlt : i < (quosI a b).length := by omega
   refine go 6 ?_
   obtain ⟨b44, o44, w44, e44, c44, r44⟩ := RdA.at_ hA37 (i := i) (by omega)
   obtain rfl := r44
   refine o_v rfl (v_idx he rfl rfl e44 (i) (by omega) (by omega)) ?_
   refine o_v rfl (v_ldIa he rfl c44 rfl) ?_
   refine go 1 ?_
   refine o_alloc he rfl (fun g9 => ?_)
   refine go 1 ?_
   refine o_stw _ he rfl rfl rfl rfl rfl rfl ?_
   refine go 6 ?_
   refine o_callV (ivJoin _ z (quosI a b)[i]) rfl rfl ?_
   refine go 1 ?_
   refine bring1 ?_
   refine o_stw _ he rfl rfl rfl rfl rfl rfl ?_
   refine go 8 ?_
   refine bring1 ?_
   refine sx_drop ?_
   exact q_next2 (i + 1) (_) ⟨by omega, by rw [foldJ_step hlt, hz]⟩ (by omega) rfl sb rfl
  ·refine go 9 ?_
   refine bring1 ?_
   refine o_stw _ he rfl rfl rfl rfl rfl rfl ?_
   refine go 3 ?_
   refine fin1 rfl ⟨_, _, _, rfl, m0, .inr ⟨_, he, rfl, rfl⟩⟩ ?_
   have e : i = (quosI a b).length := (by omega)
   subst e
   rw [List.take_length] at hz
   exact q_vI (by rw [← hz, div_is hqn])

theorem rgApply (I : IMap) (u : Use) (op : Int) (a b : Ivl) (ha : ivOk a = true) (hb : ivOk b = true) :
    FnV Tryz.prog 225 #[.agg u.cells.toArray, .int .i64 (op), .agg a.cells.toArray, .agg b.cells.toArray] I (.agg (applyI op a b).cells.toArray) := by
 refine enter Tryz.func225 Tryz.call225 rfl Tryz.ntmps225 rfl (fun w0 => ?_)
 refine go 3 ?_
 refine o_box _ rfl rfl rfl (fun g4 => ?_)
 refine go 1 ?_
 refine o_box _ rfl rfl rfl (fun g6 => ?_)
 refine go 1 ?_
 refine o_box _ rfl rfl rfl (fun g7 => ?_)
 refine go 1 ?_
 refine o_alloc he rfl (fun g8 => ?_)
 refine go 15 ?_
 refine cb rfl (fun h10 p10 => ?_) (fun h10 p10 => ?_)
 ·refine go 5 ?_
  refine o_callV (ivAdd _ a b) rfl rfl ?_
  refine go 1 ?_
  refine o_stw _ he rfl rfl rfl rfl rfl rfl ?_
  refine go 5 ?_
  refine fin1 rfl ⟨_, _, _, rfl, m0, .inr ⟨_, he, rfl, rfl⟩⟩ ?_
  exact q_v (by unfold applyI; repeat (first | rw [if_pos (by assumption)] | rw [if_neg (by assumption)] | rfl))
 ·refine go 6 ?_
  refine cb rfl (fun h15 p15 => ?_) (fun h15 p15 => ?_)
  ·refine go 5 ?_
   refine o_callV (ivSub _ a b) rfl rfl ?_
   refine go 1 ?_
   refine o_stw _ he rfl rfl rfl rfl rfl rfl ?_
   refine go 5 ?_
   refine fin1 rfl ⟨_, _, _, rfl, m0, .inr ⟨_, he, rfl, rfl⟩⟩ ?_
   exact q_v (by unfold applyI; repeat (first | rw [if_pos (by assumption)] | rw [if_neg (by assumption)] | rfl))
  ·refine go 6 ?_
   refine cb rfl (fun h20 p20 => ?_) (fun h20 p20 => ?_)
   ·refine go 5 ?_
    refine o_callV (ivMul _ a b) rfl rfl ?_
    refine go 1 ?_
    refine o_stw _ he rfl rfl rfl rfl rfl rfl ?_
    refine go 5 ?_
    refine fin1 rfl ⟨_, _, _, rfl, m0, .inr ⟨_, he, rfl, rfl⟩⟩ ?_
    exact q_v (by unfold applyI; repeat (first | rw [if_pos (by assumption)] | rw [if_neg (by assumption)] | rfl))
   ·refine go 6 ?_
    refine cb rfl (fun h25 p25 => ?_) (fun h25 p25 => ?_)
    ·refine go 6 ?_
     refine o_v rfl (OV.cast (u := .int .i64 (min a.low b.low)) (v_imin rfl rfl) (congrArg (Value.int .i64) (by omega))) ?_
     refine go 4 ?_
     refine o_v rfl (OV.cast (u := .int .i64 (min a.high b.high)) (v_imin rfl rfl) (congrArg (Value.int .i64) (by omega))) ?_
     refine go 1 ?_
     refine o_val rfl (v_build (pl := [(0, 1), (1, 1)]) he he rfl rfl) ?_
     refine go 1 ?_
     refine o_stw _ he rfl rfl rfl rfl rfl rfl ?_
     refine go 5 ?_
     refine fin1 rfl ⟨_, _, _, rfl, m0, .inr ⟨_, he, rfl, rfl⟩⟩ ?_
     exact q_v (by unfold applyI; repeat (first | rw [if_pos (by assumption)] | rw [if_neg (by assumption)] | rfl))
    ·refine go 6 ?_
     refine cb rfl (fun h38 p38 => ?_) (fun h38 p38 => ?_)
     ·refine go 6 ?_
      refine o_v rfl (OV.cast (u := .int .i64 (max a.low b.low)) (v_imax rfl rfl) (congrArg (Value.int .i64) (by omega))) ?_
      refine go 4 ?_
      refine o_v rfl (OV.cast (u := .int .i64 (max a.high b.high)) (v_imax rfl rfl) (congrArg (Value.int .i64) (by omega))) ?_
      refine go 1 ?_
      refine o_val rfl (v_build (pl := [(0, 1), (1, 1)]) he he rfl rfl) ?_
      refine go 1 ?_
      refine o_stw _ he rfl rfl rfl rfl rfl rfl ?_
      refine go 5 ?_
      refine fin1 rfl ⟨_, _, _, rfl, m0, .inr ⟨_, he, rfl, rfl⟩⟩ ?_
      exact q_v (by unfold applyI; repeat (first | rw [if_pos (by assumption)] | rw [if_neg (by assumption)] | rfl))
     ·refine go 8 ?_
      refine o_callV (fmDivide _ a b ha hb) rfl rfl ?_
      refine go 1 ?_
      refine o_stw _ he rfl rfl rfl rfl rfl rfl ?_
      refine go 3 ?_
      refine fin1 rfl ⟨_, _, _, rfl, m0, .inr ⟨_, he, rfl, rfl⟩⟩ ?_
      exact q_v (by unfold applyI; repeat (first | rw [if_pos (by assumption)] | rw [if_neg (by assumption)] | rfl))

theorem rgChoose (I : IMap) (u : Use) (a b c : Ivl) :
    FnV Tryz.prog 226 #[.agg u.cells.toArray, .agg a.cells.toArray, .agg b.cells.toArray, .agg c.cells.toArray] I (.agg (chooseI a b c).cells.toArray) := by
 refine enter Tryz.func226 Tryz.call226 rfl Tryz.ntmps226 rfl (fun w0 => ?_)
 refine go 3 ?_
 refine o_box _ rfl rfl rfl (fun g4 => ?_)
 refine go 1 ?_
 refine o_box _ rfl rfl rfl (fun g5 => ?_)
 refine go 1 ?_
 refine o_box _ rfl rfl rfl (fun g6 => ?_)
 refine go 1 ?_
 refine o_box _ rfl rfl rfl (fun g7 => ?_)
 refine go 1 ?_
 refine o_alloc he rfl (fun g8 => ?_)
 refine go 7 ?_
 refine o_callV (ivOver _ a 0) rfl rfl ?_
 refine go 9 ?_
 refine cb rfl (fun h11 p11 => ?_) (fun h11 p11 => ?_)
 ·refine go 4 ?_
  refine o_stw _ he rfl rfl rfl rfl rfl rfl ?_
  refine go 5 ?_
  refine fin1 rfl ⟨_, _, _, rfl, m0, .inr ⟨_, he, rfl, rfl⟩⟩ ?_
  exact q_v (by unfold chooseI; repeat (first | rw [if_pos (by assumption)] | rw [if_neg (by assumption)] | rfl))
 ·refine go 6 ?_
  refine cb rfl (fun h14 p14 => ?_) (fun h14 p14 => ?_)
  ·refine go 4 ?_
   refine o_stw _ he rfl rfl rfl rfl rfl rfl ?_
   refine go 5 ?_
   refine fin1 rfl ⟨_, _, _, rfl, m0, .inr ⟨_, he, rfl, rfl⟩⟩ ?_
   exact q_v (by unfold chooseI; repeat (first | rw [if_pos (by assumption)] | rw [if_neg (by assumption)] | rfl))
  ·refine go 8 ?_
   refine o_callV (ivJoin _ b c) rfl rfl ?_
   refine go 1 ?_
   refine o_stw _ he rfl rfl rfl rfl rfl rfl ?_
   refine go 3 ?_
   refine fin1 rfl ⟨_, _, _, rfl, m0, .inr ⟨_, he, rfl, rfl⟩⟩ ?_
   exact q_v (by unfold chooseI; repeat (first | rw [if_pos (by assumption)] | rw [if_neg (by assumption)] | rfl))

theorem rgLetter (I : IMap) (u : Use) (op : Int) :
    FnV Tryz.prog 227 #[.agg u.cells.toArray, .int .i64 (op)] I (.agg (letterI u op).cells.toArray) := by
 refine enter Tryz.func227 Tryz.call227 rfl Tryz.ntmps227 rfl (fun w0 => ?_)
 refine go 3 ?_
 refine o_box _ rfl rfl rfl (fun g2 => ?_)
 refine go 1 ?_
 refine o_alloc he rfl (fun g4 => ?_)
 refine go 15 ?_
 refine cb rfl (fun h6 p6 => ?_) (fun h6 p6 => ?_)
 ·refine go 4 ?_
  refine o_v rfl (v_ldp (u.km.cells) m1 he rfl rfl rfl) ?_
  refine go 1 ?_
  refine o_stw _ he rfl rfl rfl rfl rfl rfl ?_
  refine go 5 ?_
  refine fin1 rfl ⟨_, _, _, rfl, m0, .inr ⟨_, he, rfl, rfl⟩⟩ ?_
  exact q_v (by unfold letterI; repeat (first | rw [if_pos (by assumption)] | rw [if_neg (by assumption)] | rfl))
 ·refine go 6 ?_
  refine cb rfl (fun h11 p11 => ?_) (fun h11 p11 => ?_)
  ·refine go 4 ?_
   refine o_v rfl (v_ldp (u.cycles.cells) m1 he rfl rfl rfl) ?_
   refine go 1 ?_
   refine o_stw _ he rfl rfl rfl rfl rfl rfl ?_
   refine go 5 ?_
   refine fin1 rfl ⟨_, _, _, rfl, m0, .inr ⟨_, he, rfl, rfl⟩⟩ ?_
   exact q_v (by unfold letterI; repeat (first | rw [if_pos (by assumption)] | rw [if_neg (by assumption)] | rfl))
  ·refine go 7 ?_
   refine o_v rfl (v_ldp (u.load.cells) m1 he rfl rfl rfl) ?_
   refine go 1 ?_
   refine o_stw _ he rfl rfl rfl rfl rfl rfl ?_
   refine go 3 ?_
   refine fin1 rfl ⟨_, _, _, rfl, m0, .inr ⟨_, he, rfl, rfl⟩⟩ ?_
   exact q_v (by unfold letterI; repeat (first | rw [if_pos (by assumption)] | rw [if_neg (by assumption)] | rfl))

theorem rgNumber (I : IMap) (u : Use) (n : Int) :
    FnV Tryz.prog 228 #[.agg u.cells.toArray, .int .i64 (n)] I (.agg #[.int .i64 (n), .int .i64 (n)]) := by
 refine enter Tryz.func228 Tryz.call228 rfl Tryz.ntmps228 rfl (fun w0 => ?_)
 refine go 3 ?_
 refine o_box _ rfl rfl rfl (fun g2 => ?_)
 refine go 1 ?_
 refine o_alloc he rfl (fun g4 => ?_)
 refine go 7 ?_
 refine o_val rfl (v_build (pl := [(0, 1), (1, 1)]) he he rfl rfl) ?_
 refine go 1 ?_
 refine o_stw _ he rfl rfl rfl rfl rfl rfl ?_
 refine go 3 ?_
 refine fin1 rfl ⟨_, _, _, rfl, m0, .inr ⟨_, he, rfl, rfl⟩⟩ ?_
 exact q_v rfl

theorem fmRun_step (I : IMap) (u : Use) (hu : useOk u = true) (N : Nat) (ih : ∀ (f : Fm), cntN f ≤ N → ∀ vs, FmRd I vs f → rightF f = true → FnV Tryz.prog 31 #[.iface 80 (.agg u.cells.toArray), .agg vs.toArray] I (.agg (spanF u f).cells.toArray)) (f : Fm) (hN : cntN f ≤ N + 1) (vs : List Value) (hr : FmRd I vs f) (hR : rightF f = true) :
    FnV Tryz.prog 31 #[.iface 80 (.agg u.cells.toArray), .agg vs.toArray] I (.agg (spanF u f).cells.toArray) := by
 obtain ⟨s, rfl, hs⟩ := fm_out hr
 obtain ⟨A, c0, rfl, hA, hc, hm⟩ := hs
 refine enter Tryz.func31 Tryz.call31 rfl Tryz.ntmps31 rfl (fun w0 => ?_)
 refine go 3 ?_
 refine o_box _ rfl rfl rfl (fun g3 => ?_)
 refine go 1 ?_
 refine o_alloc he rfl (fun g4 => ?_)
 refine go 12 ?_
 refine cb rfl (fun h5 p5 => ?_) (fun h5 p5 => ?_)
 ·refine go 6 ?_
  refine o_invV he (rgNumber _ u f.n) rfl rfl rfl ?_
  refine go 1 ?_
  refine o_stw _ he rfl rfl rfl rfl rfl rfl ?_
  refine go 5 ?_
  refine fin1 rfl ⟨_, _, _, rfl, m0, .inr ⟨_, he, rfl, rfl⟩⟩ ?_
  exact q_v (by rw [span_num hR p5]; rfl)
 ·refine go 8 ?_
  refine cb rfl (fun h13 p13 => ?_) (fun h13 p13 => ?_)
  ·refine go 6 ?_
   refine o_invV he (rgLetter _ u f.op) rfl rfl rfl ?_
   refine go 1 ?_
   refine o_stw _ he rfl rfl rfl rfl rfl rfl ?_
   refine go 5 ?_
   refine fin1 rfl ⟨_, _, _, rfl, m0, .inr ⟨_, he, rfl, rfl⟩⟩ ?_
   exact q_v (by rw [span_letter hR p5 p13])
  ·refine go 8 ?_
   refine cb rfl (fun h21 p21 => ?_) (fun h21 p21 => ?_)
   ·have h3 := kids3 hR p21
    refine go 1 ?_
    refine d_start1 T.mixed ?_
    refine d_tv 0 rfl rfl (by kernel_rfl) rfl (.cons _ (.refl _)) rfl (v_move rfl) ?_
    refine d_tv 1 rfl rfl (by kernel_rfl) rfl (.cons _ (.refl _)) rfl (v_move rfl) ?_
    refine d_tv 2 rfl rfl (by kernel_rfl) rfl (.cons _ (.refl _)) rfl (v_fieldAddr he rfl) ?_
    refine d_tv 3 rfl rfl (by kernel_rfl) rfl (.cons _ (.refl _)) rfl (v_ld m0 he rfl rfl) ?_
    obtain ⟨b29, o29, w29, e29, c29, r29⟩ := RdA.at_ hA (i := 0) (by omega)
    replace r29 := fm_out r29
    obtain ⟨s29, rfl, hs29⟩ := r29
    refine d_tv 4 rfl rfl (by kernel_rfl) rfl (.cons _ (.refl _)) rfl (v_idx he rfl rfl e29 (0) rfl (by omega)) ?_
    refine d_tv 5 rfl rfl (by kernel_rfl) rfl (.cons _ (.refl _)) rfl (v_ldIa he rfl c29 rfl) ?_
    refine d_tv 7 rfl rfl (by kernel_rfl) rfl (.cons _ (.refl _)) rfl (v_move rfl) ?_
    refine d_tv 8 rfl rfl (by kernel_rfl) rfl (.cons _ (.refl _)) rfl (v_fieldAddr he rfl) ?_
    refine d_tv 9 rfl rfl (by kernel_rfl) rfl (.cons _ (.refl _)) rfl (v_ld m0 he rfl rfl) ?_
    obtain ⟨b35, o35, w35, e35, c35, r35⟩ := RdA.at_ hA (i := 1) (by omega)
    replace r35 := fm_out r35
    obtain ⟨s35, rfl, hs35⟩ := r35
    refine d_tv 10 rfl rfl (by kernel_rfl) rfl (.cons _ (.refl _)) rfl (v_idx he rfl rfl e35 (1) rfl (by omega)) ?_
    refine d_tv 11 rfl rfl (by kernel_rfl) rfl (.cons _ (.refl _)) rfl (v_ldIa he rfl c35 rfl) ?_
    refine d_tv 13 rfl rfl (by kernel_rfl) rfl (.cons _ (.refl _)) rfl (v_move rfl) ?_
    refine d_tv 14 rfl rfl (by kernel_rfl) rfl (.cons _ (.refl _)) rfl (v_fieldAddr he rfl) ?_
    refine d_tv 15 rfl rfl (by kernel_rfl) rfl (.cons _ (.refl _)) rfl (v_ld m0 he rfl rfl) ?_
    obtain ⟨b41, o41, w41, e41, c41, r41⟩ := RdA.at_ hA (i := 2) (by omega)
    replace r41 := fm_out r41
    obtain ⟨s41, rfl, hs41⟩ := r41
    refine d_tv 16 rfl rfl (by kernel_rfl) rfl (.cons _ (.refl _)) rfl (v_idx he rfl rfl e41 (2) rfl (by omega)) ?_
    refine d_tv 17 rfl rfl (by kernel_rfl) rfl (.cons _ (.refl _)) rfl (v_ldIa he rfl c41 rfl) ?_
    refine d_tv 19 rfl rfl (by kernel_rfl) rfl (.cons _ (.refl _)) rfl (v_makeFunc rfl rfl) ?_
    refine d_tv 20 rfl rfl (by kernel_rfl) rfl (.cons _ (.refl _)) rfl (v_nilMeth he rfl) ?_
    refine d_tv 21 rfl rfl (by kernel_rfl) rfl (.cons _ (.refl _)) rfl (v_move rfl) ?_
    refine d_one 6 (by kernel_rfl) rfl ?_
    refine o_callV (ih (f.kids[0]'(by omega)) (by have := cnt_kid (List.getElem_mem (show 0 < f.kids.length by omega)); omega) _ (fm_back hs29) (right_get hR 0 _)) rfl rfl ?_
    refine d_on (fun _ m => m.keeps (.cons _ (.refl _))) ?_
    refine d_one 12 (by kernel_rfl) rfl ?_
    refine o_callV (ih (f.kids[1]'(by omega)) (by have := cnt_kid (List.getElem_mem (show 1 < f.kids.length by omega)); omega) _ (fm_back hs35) (right_get hR 1 _)) rfl rfl ?_
    refine d_on (fun _ m => m.keeps (.cons _ (.refl _))) ?_
    refine d_one 18 (by kernel_rfl) rfl ?_
    refine o_callV (ih (f.kids[2]'(by omega)) (by have := cnt_kid (List.getElem_mem (show 2 < f.kids.length by omega)); omega) _ (fm_back hs41) (right_get hR 2 _)) rfl rfl ?_
    refine d_on (fun _ m => m.keeps (.cons _ (.refl _))) ?_
    refine d_one 22 (by kernel_rfl) rfl ?_
    refine o_invV he (rgChoose _ u _ _ _) rfl rfl rfl ?_
    refine d_on (fun _ m => m.keeps (.cons _ (.refl _))) ?_
    refine d_one 23 (by kernel_rfl) rfl ?_
    refine o_stw _ he rfl rfl rfl rfl rfl rfl ?_
    refine d_on (fun _ m => m.keeps (.cons _ (.refl _))) ?_
    refine d_done (by kernel_rfl) ?_
    refine go 4 ?_
    refine fin1 rfl ⟨_, _, _, rfl, m0, .inr ⟨_, he, rfl, rfl⟩⟩ ?_
    exact q_v (by rw [span_if h3])
   ·have h2 := kids2 hR p21 p13
    refine go 4 ?_
    refine d_start1 T.mixed ?_
    refine d_tv 0 rfl rfl (by kernel_rfl) rfl (.cons _ (.refl _)) rfl (v_move rfl) ?_
    refine d_tv 1 rfl rfl (by kernel_rfl) rfl (.cons _ (.refl _)) rfl (v_fieldAddr he rfl) ?_
    refine d_tv 2 rfl rfl (by kernel_rfl) rfl (.cons _ (.refl _)) rfl (v_ld m0 he rfl rfl) ?_
    refine d_tv 3 rfl rfl (by kernel_rfl) rfl (.cons _ (.refl _)) rfl (v_move rfl) ?_
    refine d_tv 4 rfl rfl (by kernel_rfl) rfl (.cons _ (.refl _)) rfl (v_fieldAddr he rfl) ?_
    refine d_tv 5 rfl rfl (by kernel_rfl) rfl (.cons _ (.refl _)) rfl (v_ld m0 he rfl rfl) ?_
    obtain ⟨b54, o54, w54, e54, c54, r54⟩ := RdA.at_ hA (i := 0) (by omega)
    replace r54 := fm_out r54
    obtain ⟨s54, rfl, hs54⟩ := r54
    refine d_tv 6 rfl rfl (by kernel_rfl) rfl (.cons _ (.refl _)) rfl (v_idx he rfl rfl e54 (0) rfl (by omega)) ?_
    refine d_tv 7 rfl rfl (by kernel_rfl) rfl (.cons _ (.refl _)) rfl (v_ldIa he rfl c54 rfl) ?_
    refine d_tv 9 rfl rfl (by kernel_rfl) rfl (.cons _ (.refl _)) rfl (v_move rfl) ?_
    refine d_tv 10 rfl rfl (by kernel_rfl) rfl (.cons _ (.refl _)) rfl (v_fieldAddr he rfl) ?_
    refine d_tv 11 rfl rfl (by kernel_rfl) rfl (.cons _ (.refl _)) rfl (v_ld m0 he rfl rfl) ?_
    obtain ⟨b60, o60, w60, e60, c60, r60⟩ := RdA.at_ hA (i := 1) (by omega)
    replace r60 := fm_out r60
    obtain ⟨s60, rfl, hs60⟩ := r60
    refine d_tv 12 rfl rfl (by kernel_rfl) rfl (.cons _ (.refl _)) rfl (v_idx he rfl rfl e60 (1) rfl (by omega)) ?_
    refine d_tv 13 rfl rfl (by kernel_rfl) rfl (.cons _ (.refl _)) rfl (v_ldIa he rfl c60 rfl) ?_
    refine d_tv 15 rfl rfl (by kernel_rfl) rfl (.cons _ (.refl _)) rfl (v_makeFunc rfl rfl) ?_
    refine d_tv 16 rfl rfl (by kernel_rfl) rfl (.cons _ (.refl _)) rfl (v_nilMeth he rfl) ?_
    refine d_tv 17 rfl rfl (by kernel_rfl) rfl (.cons _ (.refl _)) rfl (v_move rfl) ?_
    refine d_one 8 (by kernel_rfl) rfl ?_
    refine o_callV (ih (f.kids[0]'(by omega)) (by have := cnt_kid (List.getElem_mem (show 0 < f.kids.length by omega)); omega) _ (fm_back hs54) (right_get hR 0 _)) rfl rfl ?_
    refine d_on (fun _ m => m.keeps (.cons _ (.refl _))) ?_
    refine d_one 14 (by kernel_rfl) rfl ?_
    refine o_callV (ih (f.kids[1]'(by omega)) (by have := cnt_kid (List.getElem_mem (show 1 < f.kids.length by omega)); omega) _ (fm_back hs60) (right_get hR 1 _)) rfl rfl ?_
    refine d_on (fun _ m => m.keeps (.cons _ (.refl _))) ?_
    refine d_one 18 (by kernel_rfl) rfl ?_
    refine o_invV he (rgApply _ u _ _ _ (span_ok hu _ (right_get hR 0 (by omega))) (span_ok hu _ (right_get hR 1 (by omega)))) rfl rfl rfl ?_
    refine d_on (fun _ m => m.keeps (.cons _ (.refl _))) ?_
    refine d_one 19 (by kernel_rfl) rfl ?_
    refine o_stw _ he rfl rfl rfl rfl rfl rfl ?_
    refine d_on (fun _ m => m.keeps (.cons _ (.refl _))) ?_
    refine d_done (by kernel_rfl) ?_
    refine go 2 ?_
    refine fin1 rfl ⟨_, _, _, rfl, m0, .inr ⟨_, he, rfl, rfl⟩⟩ ?_
    exact q_v (by rw [span_two h2])

theorem fmRun (I : IMap) (u : Use) (hu : useOk u = true) (f : Fm) (vs : List Value) (hr : FmRd I vs f) (hR : rightF f = true) : FnV Tryz.prog 31 #[.iface 80 (.agg u.cells.toArray), .agg vs.toArray] I (.agg (spanF u f).cells.toArray) := by
  have key : ∀ (N : Nat) (f : Fm), cntN f ≤ N → ∀ vs, FmRd I vs f → rightF f = true → FnV Tryz.prog 31 #[.iface 80 (.agg u.cells.toArray), .agg vs.toArray] I (.agg (spanF u f).cells.toArray) := by
    intro N
    induction N with
    | zero => intro f hN; exact absurd hN (by cases f; simp [cntN])
    | succ N ih => intro f hN vs hr hR; exact fmRun_step I u hu N ih f hN vs hr hR
  exact key (cntN f) f (Nat.le_refl _) vs hr hR

theorem fmDamage (I : IMap) (f : Fm) (vs : List Value) (hr : FmRd I vs f) (u : Use) :
    FnV Tryz.prog 12 #[.agg vs.toArray, .agg u.cells.toArray] I (.agg (damF f u).cells.toArray) := by
 obtain ⟨s, rfl, hs⟩ := fm_out hr
 obtain ⟨A, c0, rfl, hA, hc, hm⟩ := hs
 refine enter Tryz.func12 Tryz.call12 rfl Tryz.ntmps12 rfl (fun w0 => ?_)
 refine go 3 ?_
 refine o_box _ rfl rfl rfl (fun g2 => ?_)
 refine go 1 ?_
 refine o_box _ rfl rfl rfl (fun g3 => ?_)
 refine go 1 ?_
 refine o_alloc he rfl (fun g4 => ?_)
 refine go 6 ?_
 refine o_v rfl (v_ldp (u.km.cells) m1 he rfl rfl rfl) ?_
 refine go 1 ?_
 refine o_v rfl (v_ldp (u.cycles.cells) m1 he rfl rfl rfl) ?_
 refine go 1 ?_
 refine o_v rfl (v_ldp (u.load.cells) m1 he rfl rfl rfl) ?_
 refine go 1 ?_
 refine o_buildSlice he he rfl rfl rfl rfl rfl rfl rfl (fun v14 => ?_)
 refine sx_pubrow (l := [u.km, u.cycles, u.load]) rfl rfl ((ivCs_flat [u.km, u.cycles, u.load])) (fun I14 j14 R14 => ?_)
 have hr := hr.le j14
 obtain ⟨A14, c14, rfl, hA14, _, _⟩ := R14
 refine go 5 ?_
 refine bring1 ?_
 refine bring2 ?_
 refine c_loop (α := Nat) 0 (fun i => I14)
  (fun i => [(2, .pointer (some ⟨g2, 0, none⟩)), (3, .pointer (some ⟨g3, 0, none⟩)), (4, .pointer (some ⟨g4, 0, none⟩)), (14, .slice A14 [u.km, u.cycles, u.load].length c14), (15, .int .i64 ([u.km, u.cycles, u.load].length : Int)), (16, .int .i64 ((i : Nat) : Int))])
  (fun i => [.blk g2 27 [ci f.op, ci f.n, .slice A f.kids.length c0], .blk g3 34 u.cells, .blk g4 32 [.int .i64 (0), .int .i64 (0)]])
  (fun i => i ≤ 3 ∧ allP (fun _ q => useIv q) [u.km, u.cycles, u.load] i = true)
  (fun i => 3 - i) ⟨by omega, rfl⟩ rfl sb rfl ?_
 intro i ⟨hi, hn⟩
 refine go 6 ?_
 refine cb rfl (fun h17 p17 => ?_) (fun h17 p17 => ?_)
 ·have hlt : i < 3 := by simp at p17; omega
  refine go 6 ?_
  obtain ⟨b18, o18, w18, e18, c18, r18⟩ := RdA.at_ hA14 (i := i) (by omega)
  obtain rfl := r18
  refine o_v rfl (v_idx he rfl rfl e18 (i) (by omega) (by omega)) ?_
  refine o_v rfl (v_ldIa he rfl c18 rfl) ?_
  refine go 1 ?_
  refine o_alloc he rfl (fun g6 => ?_)
  refine go 1 ?_
  refine o_stw _ he rfl rfl rfl rfl rfl rfl ?_
  refine go 3 ?_
  refine c_cut (I' := I14) (L' := [(2, .pointer (some ⟨g2, 0, none⟩)), (3, .pointer (some ⟨g3, 0, none⟩)), (4, .pointer (some ⟨g4, 0, none⟩)), (14, .slice A14 [u.km, u.cycles, u.load].length c14), (15, .int .i64 ([u.km, u.cycles, u.load].length : Int)), (16, .int .i64 ((i : Nat) : Int)), (6, .pointer (some ⟨g6, 0, none⟩)), (34, .bool (!useIv [u.km, u.cycles, u.load][i]))]) (H' := [.blk g6 32 [u.km, u.cycles, u.load][i].cells, .blk g2 27 [ci f.op, ci f.n, .slice A f.kids.length c0], .blk g3 34 u.cells, .blk g4 32 [.int .i64 (0), .int .i64 (0)]]) ?_ ?_
  ·refine go 5 ?_
   refine sxb 23 rfl (fun h23 p23 => ?_) (fun h23 p23 => ?_)
   ·refine go 13 ?_
    exact q_cut ⟨rfl, rfl, rfl, rfl, rfl, rfl, rfl, (congrArg (fun b => some (Value.bool b)) (by simp only [useIv, Bool.not_not, h17, h23, bS])), trivial⟩ rfl rfl
   ·refine go 7 ?_
    refine sxb 30 rfl (fun h30 p30 => ?_) (fun h30 p30 => ?_)
    ·refine go 6 ?_
     exact q_cut ⟨rfl, rfl, rfl, rfl, rfl, rfl, rfl, (congrArg (fun b => some (Value.bool b)) (by simp only [useIv, Bool.not_not, h17, h23, h30, bS])), trivial⟩ rfl rfl
    ·refine go 6 ?_
     exact q_cut ⟨rfl, rfl, rfl, rfl, rfl, rfl, rfl, (congrArg (fun b => some (Value.bool b)) (by simp only [useIv, Bool.not_not, h17, h23, h30, bS])), trivial⟩ rfl rfl
  ·refine cb rfl (fun h34 p34 => ?_) (fun h34 p34 => ?_)
   ·refine go 3 ?_
    refine o_val rfl (v_build (pl := [(0, 1), (1, 1)]) he he rfl rfl) ?_
    refine go 1 ?_
    refine bring3 ?_
    refine o_stw _ he rfl rfl rfl rfl rfl rfl ?_
    refine go 8 ?_
    refine fin1 rfl ⟨_, _, _, rfl, m0, .inr ⟨_, he, rfl, rfl⟩⟩ ?_
    exact q_vI (by rw [dam_no (use_no hlt (by simpa using h34))]; rfl)
   ·refine go 8 ?_
    refine sx_drop ?_
    exact q_next (i + 1) ⟨by omega, allP_succ (f := fun _ q => useIv q) hn (show i < [u.km, u.cycles, u.load].length from hlt) (by simpa using h34)⟩ (by omega) rfl sb rfl
 ·have e : i = 3 := (by simp at p17; omega)
  subst e
  have hu : useOk u = true := use_yes hn
  refine go 10 ?_
  refine o_callV (fmValid _ f _ hr) rfl rfl ?_
  refine go 3 ?_
  refine cb rfl (fun h39 p39 => ?_) (fun h39 p39 => ?_)
  ·refine go 3 ?_
   refine o_val rfl (v_build (pl := [(0, 1), (1, 1)]) he he rfl rfl) ?_
   refine go 1 ?_
   refine bring2 ?_
   refine o_stw _ he rfl rfl rfl rfl rfl rfl ?_
   refine go 4 ?_
   refine fin1 rfl ⟨_, _, _, rfl, m0, .inr ⟨_, he, rfl, rfl⟩⟩ ?_
   exact q_vI (by rw [dam_bad hu (by simpa using h39)]; rfl)
  ·have hv : validFm f = true := by simpa using h39
   refine go 6 ?_
   refine o_val rfl (v_build (pl := [(0, 6)]) he he rfl rfl) ?_
   refine o_v rfl (v_iface T.stk_80 rfl) ?_
   refine go 2 ?_
   refine o_callV (fmRun _ u hu f _ hr (by simp only [validFm, Bool.and_eq_true] at hv; exact hv.2)) rfl rfl ?_
   refine go 1 ?_
   refine o_alloc he rfl (fun g7 => ?_)
   refine go 1 ?_
   refine o_stw _ he rfl rfl rfl rfl rfl rfl ?_
   refine go 6 ?_
   refine o_v rfl (OV.cast (u := .int .i64 (max 0 (spanF u f).low)) (v_imax rfl rfl) (congrArg (Value.int .i64) (by omega))) ?_
   refine go 2 ?_
   refine o_v rfl (OV.cast (u := .int .i64 (max 0 (spanF u f).high)) (v_imax rfl rfl) (congrArg (Value.int .i64) (by omega))) ?_
   refine go 1 ?_
   refine o_val rfl (v_build (pl := [(0, 1), (1, 1)]) he he rfl rfl) ?_
   refine go 1 ?_
   refine bring3 ?_
   refine o_stw _ he rfl rfl rfl rfl rfl rfl ?_
   refine go 3 ?_
   refine fin1 rfl ⟨_, _, _, rfl, m0, .inr ⟨_, he, rfl, rfl⟩⟩ ?_
   exact q_vI (by rw [dam_yes hu hv]; rfl)

end Go.Proofs.YthcefohbbfjjfaaGreat

/- The laws of lives, in plain Lean. -/
set_option linter.all false
namespace Go.Sx
open Go
section
variable {c : List Kind} {f : Fm} {st : List Part} {p : Part} {e : Evt} {d : Ivl} {l : List Evt}
theorem both_some {a b : Bool} (h : ¬ (!a || !b) = true) : a = true ∧ b = true := by cases a <;> cases b <;> simp_all
theorem apply_inc (h : (applyF c st e).2 = 0) : Inc Part.name st ∧ st.length ≤ 20000 := by
  unfold applyF at h
  split at h
  · cases h
  · rename_i h2
    have : validS c st = true ∧ validE e = true := by simpa using h2
    have h3 := validS_ord this.1
    exact ⟨inc_of h3.1, h3.2⟩
/-- a run changes nothing in the fleet -/
theorem apply_run (h : (applyF c st e).2 = 0) (h4 : e.op = 4) : (applyF c st e).1 = st := by
  have hi := (apply_inc h).1
  unfold applyF at h ⊢
  split at h
  · cases h
  · rename_i h0
    rw [if_neg h0, if_neg (by omega)] at *
    unfold applyRest at h ⊢
    split at h
    · cases h
    · rename_i h1
      rw [if_neg h1]
      split at h
      · cases h
      · rename_i h2
        rw [if_neg h2]
        have hm : partP st e ∈ st := partP_mem (both_some h1).1
        unfold applyOp at h ⊢
        rw [if_neg (by omega), if_neg (by omega), if_pos h4] at *
        unfold applyRun at h ⊢
        split at h
        · cases h
        · rename_i h3
          rw [if_neg h3]
          exact put_same hi hm
end
end Go.Sx

/- Going through a map of the call's own, in whatever order; taking keys out of it. -/
set_option linter.all false
namespace Go.Sx
open Go
open Go.ChangeMaps (setBlock)
/-- how far a range over a map is -/
structure ItS where
  es : Array MapEntry
  clock : Nat
  seen : Array Nat
def ItS.it (S : ItS) (m : Nat) : Obj := .mapIter (some m) S.clock S.seen S.clock
def ItS.mp (S : ItS) : Obj := .map S.es S.clock
structure ItS.Ok {κ : Type} (enc : κ → Value) (kvs : List (κ × Value)) (S : ItS) : Prop where
  all : S.es.toList.map (fun e => (e.key, e.val)) = emap enc kvs
  nd : (S.es.toList.map (·.born)).Nodup
  old : ∀ e ∈ S.es.toList, e.born < S.clock
/-- what is still to come -/
def ItS.Todo {κ : Type} (enc : κ → Value) (todo : List (κ × Value)) (S : ItS) : Prop := (leftOf S.es S.seen).toList.map (fun e => (e.key, e.val)) = emap enc todo
/-- what has just come -/
def ItS.At {κ : Type} (enc : κ → Value) (p : κ × Value) (S : ItS) : Prop := ∃ (e : MapEntry) (seen0 : Array Nat), S.seen = seen0.push e.born ∧ e ∈ S.es.toList ∧ e.key = enc p.1 ∧ e.val = p.2
/-- one step -/
inductive ItS.Step {κ : Type} (enc : κ → Value) (kvs todo : List (κ × Value)) (S : ItS) : Option (κ × Value) → ItS → List (κ × Value) → Prop
  | over (h : todo = []) : ItS.Step enc kvs todo S none S todo
  | come (p : κ × Value) (a b : List (κ × Value)) (S' : ItS) (h : todo = a ++ p :: b) (h1 : S'.Ok enc kvs) (h2 : S'.Todo enc (a ++ b)) (h3 : S'.At enc p) : ItS.Step enc kvs todo S (some p) S' (a ++ b)
def nextA {κ : Type} (enc : κ → Value) : Option (κ × Value) → Array Value
  | none => #[.bool false]
  | some p => #[.bool true, enc p.1, p.2]
theorem nextA_0 {κ : Type} (enc : κ → Value) (q : Option (κ × Value)) : (nextA enc q)[0]? = some (.bool q.isSome) := by cases q <;> rfl
theorem emap_mid {κ : Type} {enc : κ → Value} {x : Value × Value} : ∀ {l a b : List (Value × Value)} {todo : List (κ × Value)}, l = emap enc todo → l = a ++ x :: b → ∃ (p : κ × Value) (a' b' : List (κ × Value)), todo = a' ++ p :: b' ∧ emap enc a' = a ∧ emap enc b' = b ∧ (enc p.1, p.2) = x
  | _, a, b, todo, rfl, h => by
    have h1 : todo.map (fun p => (enc p.1, p.2)) = a ++ x :: b := h
    obtain ⟨a', c', rfl, h2, h3⟩ := List.map_eq_append_iff.1 h1
    obtain ⟨p, b', rfl, h4, h5⟩ := List.map_eq_cons_iff.1 h3
    exact ⟨p, a', b', rfl, h2, h5, h4⟩
section
variable {P : Program} {ρ : Option Nat} {n : Sz} {E : Ent} {I : IMap} {L : LL} {H : List Res} {Q : Exit → Act → World → Prop} {ops : Array Oper} {K : Act → World → Prop}
variable {d ty : Nat} {pos : String} {af : Array Edge} {x y : Operand} {κ : Type} [DecidableEq κ] {enc : κ → Value} {kvs todo : List (κ × Value)} {S : ItS} {m r : Nat}
theorem sx_openmap (h : ∀ S : ItS, S.Ok enc kvs → S.Todo enc kvs → S.seen = #[] → SX n E I L (.any m S.mp :: H) K) : SX n E I L (.mp m (emap enc kvs) :: H) K := by
  intro a w s mm
  obtain ⟨entries, clock, h1, h2, h3, h4⟩ := mm.mp (List.mem_cons_self ..)
  refine h ⟨entries, clock, #[]⟩ ⟨h2, h3, h4⟩ ?_ rfl a w s (mm.step rfl rfl rfl (Nat.le_refl _) (fun _ _ _ => rfl) h1 (fun g hg => .inl hg))
  unfold ItS.Todo leftOf
  rw [show (entries.filter fun e => !(#[] : Array Nat).contains e.born) = entries from Array.filter_eq_self.2 (fun x hx => by simp)]
  exact h2
theorem sx_shutmap (hO : S.Ok enc kvs) (h : SX n E I L (.mp m (emap enc kvs) :: H) K) : SX n E I L (.any m S.mp :: H) K := by
  intro a w s mm
  refine h a w s (mm.step rfl rfl rfl (Nat.le_refl _) (fun _ _ _ => rfl) ⟨S.mp, mm.holds _ (List.mem_cons_self ..), S.es, S.clock, rfl, hO.all, hO.nd, hO.old⟩ (fun g hg => .inl hg))
theorem o_range {mt kt et : Nat} (hS : S.seen = #[]) (ht : P.underlying mt = some (.map kt et)) (hx : ev L x = some (.map (some m))) (hd : Nat.blt d n.sz = true)
    (k : ∀ r, SX n E I ((d, .pointer (some ⟨r, 0, none⟩)) :: L) (.any r (S.it m) :: .any m S.mp :: H) K) : SX n E I L (.any m S.mp :: H) (one P ops Q ⟨some d, .range mt x, ty, pos, af, none⟩ K) :=
  o_gen (fun r : Nat => .pointer (some ⟨r, 0, none⟩)) (fun _ => I) (fun r => .any r (S.it m) :: .any m S.mp :: H) (fun _ => True) hd
    (fun a w st mm => by
      have hb : w.heap[m]? = some (.map S.es S.clock) := mm.holds _ (List.mem_cons_self ..)
      refine ⟨w.heap.size, w.alloc (.mapIter (some m) S.clock #[] S.clock), trivial, ?_, mm.new rfl rfl rfl (by simp) (fun k hk => Below_old w _ k hk) (by show (w.alloc _).heap[w.heap.size]? = _; rw [heap_alloc_new]; simp [ItS.it, hS]) (fun g hg => by simp only [Res.foot, Option.some.injEq] at hg; omega)⟩
      simp only [execOp, st.ev hx, Sem.run_bind, run_range_map w mt kt et m S.es S.clock ht hb, Result.andThen_ok, Sem.run_pure]) fun r _ => k r
theorem Mem.setBlock {w : World} {o o' : Obj} (mm : Mem E I (.any r o :: H) w) : Mem E I (.any r o' :: H) (setBlock w r o') := by
  have hr : w.heap[r]? = some o := mm.holds _ (List.mem_cons_self ..)
  have hlt : r < w.heap.size := (Array.getElem?_eq_some_iff.1 hr).1
  refine mm.step rfl rfl rfl (by simp [ChangeMaps.setBlock]) (fun k hk hne => ?_) (by show (ChangeMaps.setBlock w r o').heap[r]? = _; simp [ChangeMaps.setBlock, hlt]) (fun g hg => .inl hg)
  have : r ≠ k := fun e => hne (by rw [← e]; rfl)
  simp [ChangeMaps.setBlock, Array.getElem?_setIfInBounds_ne this]
theorem o_next (hO : S.Ok enc kvs) (hT : S.Todo enc todo) (hx : ev L x = some (.pointer (some ⟨r, 0, none⟩))) (hd : Nat.blt d n.sz = true)
    (k : ∀ q S' todo', ItS.Step enc kvs todo S q S' todo' → SX n E I ((d, .tuple (nextA enc q)) :: L) (.any r (S'.it m) :: .any m S'.mp :: H) K) :
    SX n E I L (.any r (S.it m) :: .any m S.mp :: H) (one P ops Q ⟨some d, .next x false, ty, pos, af, none⟩ K) :=
  o_gen (α := Option (κ × Value) × ItS × List (κ × Value)) (fun z => .tuple (nextA enc z.1)) (fun _ => I) (fun z => .any r (z.2.1.it m) :: .any m z.2.1.mp :: H) (fun z => ItS.Step enc kvs todo S z.1 z.2.1 z.2.2) hd
    (fun a w st mm => by
      have hr : w.heap[r]? = some (.mapIter (some m) S.clock S.seen S.clock) := mm.holds (.any r (S.it m)) (List.mem_cons_self ..)
      have hb : w.heap[m]? = some (.map S.es S.clock) := mm.holds (.any m S.mp) (List.mem_cons_of_mem _ (List.mem_cons_self ..))
      rcases run_next_at (P := P) w ty r m S.clock S.clock S.seen S.es S.clock hr hb hO.old (Nat.le_refl _) with ⟨h0, hrun⟩ | ⟨e, he, w1, hw1, hrun⟩
      · refine ⟨(none, S, todo), w, .over ?_, by simp only [execOp, st.ev hx, Sem.run_bind, hrun, Result.andThen_ok, Sem.run_pure]; rfl, mm⟩
        have h1 : (leftOf S.es S.seen).toList = [] := List.eq_nil_of_length_eq_zero (by simpa using h0)
        unfold ItS.Todo at hT
        rw [h1] at hT
        cases todo with
        | nil => rfl
        | cons p t => simp [emap] at hT
      · have hm1 : Mem E I (.any r (S.it m) :: .any m S.mp :: H) w1 := by rcases hw1 with rfl | rfl; exact mm; exact mm.drew
        obtain ⟨l1, l2, hl⟩ := List.append_of_mem he
        have hT' := hT
        unfold ItS.Todo at hT'
        rw [hl, List.map_append, List.map_cons] at hT'
        obtain ⟨p, a', b', e1, e2, e3, e4⟩ := emap_mid hT'.symm.symm rfl
        have hmem : e ∈ S.es.toList := by
          have : e ∈ (S.es.filter fun e => !S.seen.contains e.born).toList := he
          simp at this; simpa using this.1
        have hnd : ((leftOf S.es S.seen).toList.map (·.born)).Nodup := by
          have hs : List.Sublist (leftOf S.es S.seen).toList S.es.toList := by
            unfold leftOf; rw [Array.toList_filter]; exact List.filter_sublist
          exact (hs.map _).nodup hO.nd
        have hleft : (leftOf S.es (S.seen.push e.born)).toList = l1 ++ l2 := by
          have h5 : (leftOf S.es (S.seen.push e.born)).toList = (leftOf S.es S.seen).toList.filter (fun y => !(y.born == e.born)) := by
            unfold leftOf
            rw [Array.toList_filter, Array.toList_filter, List.filter_filter]
            congr 1
            funext y
            simp only [Array.contains_push]
            cases S.seen.contains y.born <;> cases hq : (y.born == e.born) <;> simp_all
          rw [h5, hl, List.filter_append, List.filter_cons]
          rw [hl, List.map_append, List.map_cons] at hnd
          have hn := List.nodup_append.1 hnd
          have hn2 := List.nodup_cons.1 hn.2.1
          simp only [beq_self_eq_true, Bool.not_true, Bool.false_eq_true, if_false]
          congr 1
          · rw [List.filter_eq_self]
            intro y hy
            have : y.born ≠ e.born := hn.2.2 _ (List.mem_map_of_mem hy) _ (List.mem_cons_self ..)
            simpa using this
          · rw [List.filter_eq_self]
            intro y hy
            have : y.born ≠ e.born := fun h => hn2.1 (by rw [← h]; exact List.mem_map_of_mem hy)
            simpa using this
        refine ⟨(some p, ⟨S.es, S.clock, S.seen.push e.born⟩, a' ++ b'), setBlock w1 r (.mapIter (some m) S.clock (S.seen.push e.born) S.clock), .come p a' b' ⟨S.es, S.clock, S.seen.push e.born⟩ e1 ⟨hO.all, hO.nd, hO.old⟩ ?_ ⟨e, S.seen, rfl, hmem, ?_, ?_⟩, ?_, ?_⟩
        · show (leftOf S.es (S.seen.push e.born)).toList.map _ = _
          rw [hleft, List.map_append, emap, List.map_append]
          rw [← e2, ← e3]; rfl
        · exact (congrArg Prod.fst e4).symm
        · exact (congrArg Prod.snd e4).symm
        · simp only [execOp, st.ev hx, Sem.run_bind, hrun, Result.andThen_ok, Sem.run_pure]
          rw [show e.key = enc p.1 from (congrArg Prod.fst e4).symm, show e.val = p.2 from (congrArg Prod.snd e4).symm]; rfl
        · exact Mem.setBlock hm1)
    fun z hz => k z.1 z.2.1 z.2.2 hz
theorem v_entry {p : κ × Value} (h1 : Res.any r (S.it m) ∈ H) (h2 : Res.any m S.mp ∈ H) (hO : S.Ok enc kvs) (hA : S.At enc p) (hx : ev L x = some (.pointer (some ⟨r, 0, none⟩))) : OV P n E I L H ⟨some d, .entry x, ty, pos, af, none⟩ (.tuple #[enc p.1, p.2]) := fun a w st mm => by
  obtain ⟨e, seen0, hs, he, hk, hv⟩ := hA
  have hr : w.heap[r]? = some (.mapIter (some m) S.clock (seen0.push e.born) S.clock) := by
    have := mm.holds _ h1
    rw [← hs]; exact this
  have hb : w.heap[m]? = some (.map S.es S.clock) := mm.holds _ h2
  simp only [execOp, st.ev hx, Sem.run_bind, run_entry_at w r m S.clock seen0 S.es S.clock e hr hb he hO.nd, Result.andThen_ok, Sem.run_pure, hk, hv]
/-- without the first entry of a key -/
def mdel {κ : Type} [DecidableEq κ] : List (κ × Value) → κ → List (κ × Value)
  | [], _ => []
  | (k', v) :: r, k => if k' = k then r else (k', v) :: mdel r k
theorem mdel_none {kvs : List (κ × Value)} {k : κ} : ∀ {i}, mfind kvs k i = none → mdel kvs k = kvs := by
  induction kvs with
  | nil => intro i _; rfl
  | cons p r ih =>
    obtain ⟨k', u⟩ := p
    intro i h
    simp only [mfind] at h
    split at h
    · cases h
    · rename_i hne; simp only [mdel, if_neg hne, ih h]
theorem mdel_some {kvs : List (κ × Value)} {k : κ} : ∀ {i j u}, mfind kvs k i = some (j, u) → i ≤ j ∧ j - i < kvs.length ∧ mdel kvs k = kvs.eraseIdx (j - i) := by
  induction kvs with
  | nil => intro i j u h; cases h
  | cons p r ih =>
    obtain ⟨k', u'⟩ := p
    intro i j u h
    simp only [mfind] at h
    split at h
    · rename_i he
      simp only [Option.some.injEq, Prod.mk.injEq] at h
      obtain ⟨rfl, rfl⟩ := h
      exact ⟨Nat.le_refl _, by simp, by simp [mdel, he]⟩
    · rename_i hne
      obtain ⟨h1, h2, h3⟩ := ih h
      refine ⟨by omega, by simp only [List.length_cons]; omega, ?_⟩
      rw [show j - i = (j - (i + 1)) + 1 from by omega, List.eraseIdx_cons_succ, mdel, if_neg hne, h3]
theorem mdel_filter : ∀ {kvs : List (κ × Value)} {k : κ}, (kvs.map Prod.fst).Nodup → mdel kvs k = kvs.filter (fun p => !decide (p.1 = k))
  | [], k, _ => rfl
  | (k', v) :: r, k, h => by
    rw [List.map_cons, List.nodup_cons] at h
    simp only [mdel, List.filter_cons]
    split
    · rename_i he
      subst he
      simp only [decide_true, Bool.not_true, Bool.false_eq_true, if_false]
      refine (List.filter_eq_self.2 fun p hp => ?_).symm
      have : p.1 ≠ k' := fun e => by
        have h9 : p.1 ∈ r.map Prod.fst := List.mem_map_of_mem (f := Prod.fst) hp
        rw [e] at h9
        exact h.1 h9
      simpa using this
    · rename_i hne
      simp only [hne, decide_false, Bool.not_false, if_true]
      rw [mdel_filter h.2]
/-- delete(m, k) -/
theorem o_mapDel {mt kt et : Nat} {ats : List TypeId} (hK : KeyOK P kt enc) (ht : P.underlying mt = some (.map kt et)) (key : κ) (hx : ev L x = some (.map (some m))) (hy : ev L y = some (enc key))
    (k : SX n E I L (.mp m (emap enc (mdel kvs key)) :: H) K) : SX n E I L (.mp m (emap enc kvs) :: H) (one P ops Q ⟨none, .call { callee := .builtin .delete, args := #[x, y], argTypes := (mt :: ats).toArray }, ty, pos, af, none⟩ K) := by
  intro a w st mm
  unfold one
  rw [if_pos (by rfl)]
  obtain ⟨entries, clock, h1, h2, h3, h4⟩ := mm.mp (List.mem_cons_self ..)
  have hlt : m < w.heap.size := (Array.getElem?_eq_some_iff.1 h1).1
  have hf := hK.find w key entries.toList kvs h2
  have hset : ∀ o : Obj, (setObj m o).run P w = .ok () { w with heap := w.heap.setIfInBounds m o } := fun o => by simp [setObj, Sem.run, h1]
  have hnew : ∀ o : Obj, ({ w with heap := w.heap.setIfInBounds m o } : World).heap[m]? = some o := fun o => by simp [hlt]
  have hstep : ∀ (o : Obj), MapIs o (emap enc (mdel kvs key)) → Mem E I (.mp m (emap enc (mdel kvs key)) :: H) { w with heap := w.heap.setIfInBounds m o } := fun o ho =>
    mm.step rfl rfl rfl (by simp) (fun k hk hne => by
      have : m ≠ k := fun e => hne (by rw [← e]; rfl)
      simp [Array.getElem?_setIfInBounds_ne this]) ⟨o, hnew o, ho⟩ (fun g hg => .inl hg)
  have key0 : ∃ o, MapIs o (emap enc (mdel kvs key)) ∧ (execOp a.eval ⟨none, .call { callee := .builtin .delete, args := #[x, y], argTypes := (mt :: ats).toArray }, ty, pos, af, none⟩).run P w = .ok (.value (.tuple #[])) { w with heap := w.heap.setIfInBounds m o } := by
    cases hm : mfind kvs key 0 with
    | none =>
      refine ⟨.map entries clock, ⟨_, _, rfl, by rw [mdel_none hm]; exact h2, h3, h4⟩, ?_⟩
      simp [execOp, resolve, invoke, builtin, st.ev hx, st.ev hy, Builtin.delete_, run_underlying ht, run_getMap h1, hK.check, hf, hm, hset]
    | some q =>
      obtain ⟨j, u⟩ := q
      obtain ⟨_, hj, hp⟩ := mdel_some hm
      simp only [Nat.sub_zero] at hj hp
      have hsub : List.Sublist (entries.eraseIdxIfInBounds j).toList entries.toList := by
        rw [Array.toList_eraseIdxIfInBounds]; exact List.eraseIdx_sublist _ _
      refine ⟨.map (entries.eraseIdxIfInBounds j) clock, ⟨_, _, rfl, ?_, (hsub.map _).nodup h3, fun e he => h4 e (hsub.subset he)⟩, ?_⟩
      · have hem : ∀ {α β : Type} (l : List α) (f : α → β) (i : Nat), (l.eraseIdx i).map f = (l.map f).eraseIdx i := fun l f i => by
          rw [List.eraseIdx_eq_take_drop_succ, List.eraseIdx_eq_take_drop_succ]; simp
        rw [Array.toList_eraseIdxIfInBounds, hem, h2, hp, emap, emap, hem]
      · simp [execOp, resolve, invoke, builtin, st.ev hx, st.ev hy, Builtin.delete_, run_underlying ht, run_getMap h1, hK.check, hf, hm, hset]
  obtain ⟨o, ho, hr⟩ := key0
  rw [wq_value hr]
  exact k _ _ st (hstep o ho)
end
end Go.Sx

/- What is inside a part: found in rounds, from above. -/
set_option linter.all false
namespace Go.Sx
open Go
abbrev NU := ByteArray × ByteArray
def encNU (R : List NU) : List (ByteArray × Value) := R.map fun p => (p.1, Value.string p.2)
theorem encNU_fst (R : List NU) : (encNU R).map Prod.fst = R.map Prod.fst := by simp [encNU]
theorem mput_new : ∀ {kvs : List (ByteArray × Value)} {k : ByteArray} {v : Value}, k ∉ kvs.map Prod.fst → mput kvs k v = kvs ++ [(k, v)]
  | [], _, _, _ => rfl
  | (k', u) :: r, k, v, h => by
    simp only [List.map_cons, List.mem_cons, not_or] at h
    have hne : ¬ k' = k := fun e => h.1 (e ▸ rfl)
    simp only [mput, if_neg hne, mput_new h.2, List.cons_append]
theorem encNU_put {R : List NU} {k u : ByteArray} (h : k ∉ R.map Prod.fst) : mput (encNU R) k (.string u) = encNU (R ++ [(k, u)]) := by
  rw [mput_new (by rw [encNU_fst]; exact h)]; simp [encNU]
theorem encNU_del {R : List NU} {k : ByteArray} (h : (R.map Prod.fst).Nodup) : mdel (encNU R) k = encNU (R.filter fun p => !decide (p.1 = k)) := by
  rw [mdel_filter (by rw [encNU_fst]; exact h)]
  unfold encNU
  rw [List.filter_map]; rfl
theorem mget_mem : ∀ {kvs : List (ByteArray × Value)} {k : ByteArray} {v : Value}, (kvs.map Prod.fst).Nodup → (k, v) ∈ kvs → mget kvs k = some v
  | (k', u) :: r, k, v, hn, h => by
    rw [List.map_cons, List.nodup_cons] at hn
    simp only [mget]
    rcases List.mem_cons.1 h with h | h
    · cases h; simp
    · have : k' ≠ k := fun e => by
        have h9 : k ∈ r.map Prod.fst := List.mem_map_of_mem (f := Prod.fst) h
        rw [← e] at h9
        exact hn.1 h9
      rw [if_neg this]; exact mget_mem hn.2 h
theorem mget_has : ∀ {kvs : List (ByteArray × Value)} {k : ByteArray} {v : Value}, mget kvs k = some v → k ∈ kvs.map Prod.fst
  | (k', u) :: r, k, v, h => by
    simp only [mget] at h
    split at h
    · rename_i e; simp [e]
    · simp [mget_has h]
/-- an entry of the index -/
theorem Ix.mem {kvs : List (ByteArray × Value)} {l : List Part} {k : ByteArray} {v : Value} (h : Ix kvs l) (hn : (kvs.map Prod.fst).Nodup) (hp : (k, v) ∈ kvs) : ∃ (i : Nat) (hi : i < l.length), v = ci (i : Nat) ∧ findP l k = some l[i] := by
  have h1 := mget_mem hn hp
  rw [h k] at h1
  cases hf : l.findIdx? (fun p => decide (p.name = k)) with
  | none => rw [hf] at h1; cases h1
  | some i =>
    rw [hf] at h1
    simp only [Option.map_some, Option.some.injEq] at h1
    rw [List.findIdx?_eq_some_iff_getElem] at hf
    obtain ⟨hi, hq, hb⟩ := hf
    refine ⟨i, hi, h1.symm, ?_⟩
    rw [findP, List.find?_eq_some_iff_getElem]
    exact ⟨hq, i, hi, rfl, fun j hj => by simpa using hb j hj⟩
theorem Ix.has {kvs : List (ByteArray × Value)} {l : List Part} {k : ByteArray} (h : Ix kvs l) (hs : (findP l k).isSome = true) : k ∈ kvs.map Prod.fst := by
  have h1 := h k
  cases hf : l.findIdx? (fun p => decide (p.name = k)) with
  | none =>
    exfalso
    rw [List.findIdx?_eq_none_iff] at hf
    obtain ⟨p, hp⟩ := Option.isSome_iff_exists.1 hs
    have h2 := List.mem_of_find?_eq_some hp
    have h3 := List.find?_some hp
    rw [hf p h2] at h3; cases h3
  | some i => rw [hf] at h1; exact mget_has h1
theorem up_some {l : List Part} {n : ByteArray} (h : upP l n ≠ nil8) : (findP l n).isSome = true := by
  unfold upP at h
  cases hf : findP l n with
  | none => rw [hf] at h; exact absurd rfl h
  | some p => rfl
/-- the fitted parts among some names -/
def fillR (l : List Part) (ks : List ByteArray) : List NU := (ks.filter fun n => !decide (upP l n = nil8)).map fun n => (n, upP l n)
section
variable {l : List Part} {v : ByteArray} {R : List NU} {lst out more : List ByteArray} {kvs todo done : List (ByteArray × Value)}
theorem fill_yes {ks : List ByteArray} {n : ByteArray} (h : upP l n ≠ nil8) : fillR l (ks ++ [n]) = fillR l ks ++ [(n, upP l n)] := by simp [fillR, h]
theorem fill_no {ks : List ByteArray} {n : ByteArray} (h : upP l n = nil8) : fillR l (ks ++ [n]) = fillR l ks := by simp [fillR, h]
theorem fill_fst (ks : List ByteArray) : (fillR l ks).map Prod.fst = ks.filter fun n => !decide (upP l n = nil8) := by unfold fillR; rw [List.map_map]; exact List.map_id _
theorem fill_mem {ks : List ByteArray} {n u : ByteArray} : (n, u) ∈ fillR l ks ↔ n ∈ ks ∧ upP l n = u ∧ u ≠ nil8 := by
  unfold fillR
  rw [List.mem_map]
  constructor
  · rintro ⟨m, hm, e⟩
    cases e
    have := List.mem_filter.1 hm
    exact ⟨this.1, rfl, by simpa using this.2⟩
  · rintro ⟨h1, rfl, h2⟩
    exact ⟨n, List.mem_filter.2 ⟨h1, by simpa using h2⟩, rfl⟩
/-- so many parts are fitted -/
def fitN (l : List Part) : Nat := (l.filter fun p => !decide (p.into = nil8)).length
theorem fill_len {ks : List ByteArray} (hn : ks.Nodup) : (fillR l ks).length ≤ fitN l := by
  unfold fillR fitN
  rw [List.length_map, show (l.filter fun p => !decide (p.into = nil8)).length = ((l.filter fun p => !decide (p.into = nil8)).map Part.name).length from (List.length_map _).symm]
  refine List.Nodup.length_le_of_subset (List.filter_sublist.nodup hn) fun n hm => ?_
  have h1 := (List.mem_filter.1 hm).2
  have h2 : upP l n ≠ nil8 := by simpa using h1
  obtain ⟨p, hp⟩ := Option.isSome_iff_exists.1 (up_some h2)
  have hpn : p.name = n := by simpa using List.find?_some hp
  refine List.mem_map.2 ⟨p, List.mem_filter.2 ⟨List.mem_of_find?_eq_some hp, ?_⟩, hpn⟩
  unfold upP at h2
  rw [hp] at h2
  simpa using h2
/-- the rounds -/
structure Bfs (l : List Part) (v : ByteArray) (R : List NU) (lst out : List ByteArray) : Prop where
  kn : (R.map Prod.fst).Nodup
  rest : ∀ n u, (n, u) ∈ R ↔ (upP l n = u ∧ u ≠ nil8) ∧ n ≠ v ∧ n ∉ out
  ins : ∀ n ∈ out, InsP l v n
  lst' : ∀ x ∈ lst, x = v ∨ x ∈ out
  proc : ∀ x, (x = v ∨ x ∈ out) → x ∉ lst → ∀ n, (n, x) ∉ R
  len : out.length + R.length ≤ fitN l
theorem Bfs.start (hx : Ix kvs l) (hn : (kvs.map Prod.fst).Nodup) (hd : done.Perm kvs) : Bfs l v ((fillR l (done.map Prod.fst)).filter fun p => !decide (p.1 = v)) [v] [] := by
  have hdn : (done.map Prod.fst).Nodup := ((hd.map _).nodup_iff).2 hn
  have hR : ∀ n u, (n, u) ∈ (fillR l (done.map Prod.fst)).filter (fun p => !decide (p.1 = v)) ↔ (upP l n = u ∧ u ≠ nil8) ∧ n ≠ v := fun n u => by
    rw [List.mem_filter, fill_mem]
    constructor
    · rintro ⟨⟨_, h2⟩, h3⟩; exact ⟨h2, by simpa using h3⟩
    · rintro ⟨⟨rfl, h2⟩, h3⟩
      refine ⟨⟨?_, rfl, h2⟩, by simpa using h3⟩
      exact (hd.map Prod.fst).mem_iff.2 (hx.has (up_some h2))
  refine ⟨?_, fun n u => by rw [hR]; simp, fun n h => (by cases h), fun x h => .inl (List.mem_singleton.1 h), fun x h hx => ?_, ?_⟩
  · have h1 : ((fillR l (done.map Prod.fst)).map Prod.fst).Nodup := by rw [fill_fst]; exact List.filter_sublist.nodup hdn
    exact (List.filter_sublist.map _).nodup h1
  · rcases h with h | h
    · exact absurd (List.mem_singleton.2 h) hx
    · cases h
  · have := fill_len (l := l) hdn
    have h2 := List.length_filter_le (fun p : NU => !decide (p.1 = v)) (fillR l (done.map Prod.fst))
    simp only [List.length_nil]; omega
/-- what a round finds -/
def nextN (lst : List ByteArray) (done : List NU) : List ByteArray := (done.filter fun p => decide (p.2 ∈ lst)).map Prod.fst
theorem nextN_yes {done : List NU} {p : NU} (h : p.2 ∈ lst) : nextN lst (done ++ [p]) = nextN lst done ++ [p.1] := by simp [nextN, h]
theorem nextN_no {done : List NU} {p : NU} (h : ¬ p.2 ∈ lst) : nextN lst (done ++ [p]) = nextN lst done := by simp [nextN, h]
theorem nextN_len (done : List NU) : (nextN lst done).length ≤ done.length := by unfold nextN; rw [List.length_map]; exact List.length_filter_le _ _
theorem nextN_mem {done : List NU} (hd : done.Perm R) {n : ByteArray} : n ∈ nextN lst done ↔ ∃ u, (n, u) ∈ R ∧ u ∈ lst := by
  unfold nextN
  rw [List.mem_map]
  constructor
  · rintro ⟨⟨m, u⟩, hp, rfl⟩
    have := List.mem_filter.1 hp
    exact ⟨u, hd.mem_iff.1 this.1, by simpa using this.2⟩
  · rintro ⟨u, h1, h2⟩
    exact ⟨(n, u), List.mem_filter.2 ⟨hd.mem_iff.2 h1, by simpa using h2⟩, rfl⟩
/-- what is left of the rest when some of the found are taken out -/
def restN (R : List NU) (more : List ByteArray) : List NU := R.filter fun p => !decide (p.1 ∈ more)
theorem restN_nil : restN R [] = R := by unfold restN; rw [List.filter_eq_self]; intro p _; simp
theorem restN_kn (h : (R.map Prod.fst).Nodup) (more : List ByteArray) : ((restN R more).map Prod.fst).Nodup := (List.filter_sublist.map _).nodup h
theorem restN_step {i : Nat} (hi : i < more.length) (h : (R.map Prod.fst).Nodup) : mdel (encNU (restN R (more.take i))) more[i] = encNU (restN R (more.take (i + 1))) := by
  rw [encNU_del (restN_kn h _)]
  unfold restN
  rw [List.filter_filter]
  congr 2
  funext p
  rw [← take_succ_of hi]
  simp only [List.mem_append, List.mem_singleton]
  by_cases h1 : p.1 = more[i] <;> by_cases h2 : p.1 ∈ more.take i <;> simp [h1, h2]
theorem kn_eq {n u u' : ByteArray} (h : (R.map Prod.fst).Nodup) (h1 : (n, u) ∈ R) (h2 : (n, u') ∈ R) : u = u' := by
  induction R with
  | nil => cases h1
  | cons p R ih =>
    rw [List.map_cons, List.nodup_cons] at h
    rcases List.mem_cons.1 h1 with h1 | h1
    · rcases List.mem_cons.1 h2 with h2 | h2
      · rw [← h1] at h2; exact (Prod.mk.inj h2).2.symm
      · exact absurd (List.mem_map_of_mem (f := Prod.fst) h2) (by rw [← h1] at h; exact h.1)
    · rcases List.mem_cons.1 h2 with h2 | h2
      · exact absurd (List.mem_map_of_mem (f := Prod.fst) h1) (by rw [← h2] at h; exact h.1)
      · exact ih h.2 h1 h2
theorem next_len {done : List NU} (hk : (R.map Prod.fst).Nodup) (hd : done.Perm R) : (nextN lst done).length + (restN R (nextN lst done)).length = R.length := by
  have h1 : (nextN lst done).length = R.countP (fun p => decide (p.2 ∈ lst)) := by
    unfold nextN
    rw [List.length_map, ← List.countP_eq_length_filter]
    exact hd.countP_eq _
  have h2 : restN R (nextN lst done) = R.filter (fun p => decide ¬ (decide (p.2 ∈ lst) = true)) := by
    unfold restN
    refine List.filter_congr fun p hp => ?_
    rw [Bool.eq_iff_iff]
    simp only [Bool.not_eq_true', decide_eq_false_iff_not, decide_eq_true_eq]
    refine not_congr ?_
    rw [nextN_mem hd]
    exact ⟨fun ⟨u, h3, h4⟩ => by rw [kn_eq hk hp h3]; exact h4, fun h => ⟨p.2, hp, h⟩⟩
  rw [h1, h2, ← List.countP_eq_length_filter]
  exact (List.length_eq_countP_add_countP (fun p : NU => decide (p.2 ∈ lst))).symm
theorem Bfs.step {done : List NU} (hv : (findP l v).isSome = true) (h : Bfs l v R lst out) (hd : done.Perm R) : Bfs l v (restN R (nextN lst done)) (nextN lst done) (out ++ nextN lst done) := by
  have hsub : ∀ {p : NU}, p ∈ restN R (nextN lst done) ↔ p ∈ R ∧ p.1 ∉ nextN lst done := fun {p} => by unfold restN; rw [List.mem_filter]; simp
  refine ⟨restN_kn h.kn _, fun n u => ?_, fun n hn => ?_, fun x hx => .inr (List.mem_append.2 (.inr hx)), fun x hx hnx n hm => ?_, ?_⟩
  · rw [hsub, h.rest, List.mem_append, not_or]
    simp only [and_assoc]
  · rcases List.mem_append.1 hn with hn | hn
    · exact h.ins n hn
    · obtain ⟨u, h1, h2⟩ := (nextN_mem hd).1 hn
      obtain ⟨⟨h3, h4⟩, h5, h6⟩ := (h.rest n u).1 h1
      have hup : upP l n ≠ nil8 := by rw [h3]; exact h4
      refine ⟨⟨hv, up_some hup, h5⟩, ?_⟩
      rcases h.lst' u h2 with rfl | hu
      · exact ⟨1, by unfold reachF; rw [h3]; simp [h4]⟩
      · obtain ⟨_, k, hk⟩ := h.ins u hu
        exact ⟨k + 1, by unfold reachF; rw [h3]; simp [h4, hk]⟩
  · obtain ⟨hm1, hm2⟩ := hsub.1 hm
    have hx' : x = v ∨ x ∈ out := by
      rcases hx with hx | hx
      · exact .inl hx
      · rcases List.mem_append.1 hx with hx | hx
        · exact .inr hx
        · exact absurd hx hnx
    by_cases hl : x ∈ lst
    · exact hm2 ((nextN_mem hd).2 ⟨x, hm1, hl⟩)
    · exact h.proc x hx' hl n hm1
  · have h1 := h.len
    have h2 := next_len (lst := lst) h.kn hd
    rw [List.length_append]; omega
theorem Bfs.over (h : Bfs l v R [] out) {n : ByteArray} : n ∈ out ↔ InsP l v n := by
  refine ⟨h.ins n, fun ⟨⟨_, hf, hnv⟩, k, hk⟩ => ?_⟩
  have key : ∀ (k : Nat) (n : ByteArray), n ≠ v → reachF l v k n = true → n ∈ out := by
    intro k
    induction k with
    | zero => intro n _ h; cases h
    | succ k ih =>
      intro n hn hr
      simp only [reachF, Bool.and_eq_true, Bool.not_eq_true', decide_eq_false_iff_not, Bool.or_eq_true, decide_eq_true_eq] at hr
      obtain ⟨h1, h2⟩ := hr
      refine Classical.byContradiction fun hc => ?_
      have hR := (h.rest n (upP l n)).2 ⟨⟨rfl, h1⟩, hn, hc⟩
      by_cases hv : upP l n = v
      · exact h.proc _ (.inl hv) (by simp) n hR
      · exact h.proc _ (.inr (ih _ hv (h2.resolve_left hv))) (by simp) n hR
  exact key k n hnv hk
theorem not_ins (h : findP l v = none) (n : ByteArray) : ¬ InsP l v n := fun ⟨⟨h1, _⟩, _⟩ => by rw [h] at h1; cases h1
end
end Go.Sx

/- Lives: what the steps of a run come to. -/
set_option linter.all false
namespace Go.Sx
open Go
section
variable {c : List Kind} {f : Fm} {st : List Part} {l L : List Evt} {p q : Part} {e : Evt} {d : Ivl} {day : Int} {i : Nat} {k : Int}
/-- parts, and those that are fitted -/
def cntS (st : List Part) : Nat := st.length + fitN st
theorem fitN_c (st : List Part) : fitN st = st.countP fun p => !decide (p.into = nil8) := by unfold fitN; rw [List.countP_eq_length_filter]
theorem fitN_set (st : List Part) (i : Nat) (p : Part) : fitN (st.set i p) ≤ fitN st + 1 := by
  rw [fitN_c, fitN_c]
  rcases Nat.lt_or_ge i st.length with h | h
  · rw [List.set_eq_take_append_cons_drop, if_pos h]
    have h2 : st.countP (fun p => !decide (p.into = nil8)) = (st.take i).countP (fun p => !decide (p.into = nil8)) + (st.drop i).countP (fun p => !decide (p.into = nil8)) := by rw [← List.countP_append, List.take_append_drop]
    have h3 : (st.drop (i + 1)).countP (fun p => !decide (p.into = nil8)) ≤ (st.drop i).countP (fun p => !decide (p.into = nil8)) := by
      rw [List.drop_eq_getElem_cons h, List.countP_cons]; omega
    rw [List.countP_append, List.countP_cons]
    split <;> omega
  · rw [List.set_eq_of_length_le h]; omega
theorem cnt_put (hi : Inc Part.name st) (h : (findP st q.name).isSome = true) : cntS (putL Part.name st q) ≤ cntS st + 1 := by
  have ha : atF Part.name st q.name = true := by rw [at_find hi]; exact h
  unfold cntS putL
  rw [if_pos ha, List.length_set]
  have := fitN_set st (posF Part.name st q.name) q
  omega
theorem cnt_new (hq : q.into = nil8) : cntS (putL Part.name st q) ≤ cntS st + 1 := by
  unfold putL
  split
  · unfold cntS
    rw [List.length_set]
    have := fitN_set st (posF Part.name st q.name) q
    omega
  · unfold cntS
    rw [fitN_c, fitN_c, List.countP_append, List.countP_cons, List.length_append, List.length_cons]
    have h2 : st.countP (fun p => !decide (p.into = nil8)) = (st.take (posF Part.name st q.name)).countP (fun p => !decide (p.into = nil8)) + (st.drop (posF Part.name st q.name)).countP (fun p => !decide (p.into = nil8)) := by rw [← List.countP_append, List.take_append_drop]
    have h3 : (st.take (posF Part.name st q.name)).length + (st.drop (posF Part.name st q.name)).length = st.length := by rw [← List.length_append, List.take_append_drop]
    simp only [hq, decide_true, Bool.not_true, Bool.false_eq_true, if_false]
    omega
/-- an event makes one part, or fits one, at most -/
theorem cnt_apply (h : (applyF c st e).2 = 0) : cntS (applyF c st e).1 ≤ cntS st + 1 := by
  have hi := (apply_inc h).1
  have hf : ∀ n, cntS (failR n).1 ≤ cntS st + 1 := fun n => by show cntS [] ≤ _; unfold cntS fitN; simp
  unfold applyF at h ⊢
  split
  · exact hf _
  · split
    · unfold applyMake
      split
      · exact hf _
      split
      · exact hf _
      split
      · exact hf _
      · exact cnt_new rfl
    · unfold applyRest
      split
      · exact hf _
      rename_i h2
      split
      · exact hf _
      have hs : (findP st e.part).isSome = true := (both_some h2).1
      obtain ⟨p0, hp0⟩ := Option.isSome_iff_exists.1 hs
      have hP : partP st e = p0 := by unfold partP; rw [hp0]; rfl
      have hn : p0.name = e.part := by simpa using List.find?_some hp0
      have hput : ∀ q : Part, q.name = p0.name → cntS (putR st q).1 ≤ cntS st + 1 := fun q hq => cnt_put hi (by rw [hq, hn]; exact hs)
      rw [hP]
      unfold applyOp applyFit applyRemove applyRun applyNote applyScrap
      repeat' split
      all_goals first
        | exact hf _
        | exact hput _ rfl
theorem cnt_use : cntS (useL st e d) = cntS st := by
  unfold cntS useL
  rw [fitN_c, fitN_c, List.length_map, List.countP_map]
  congr 1
  refine List.countP_congr fun p _ => ?_
  simp only [Function.comp]
  split <;> rfl
theorem use_sm (h : SmF st) : SmF (useL st e d) := fun p hp => by
  unfold useL at hp
  obtain ⟨q, hq, rfl⟩ := List.mem_map.1 hp
  have := h q hq
  split <;> exact this
/-- the course of lives -/
theorem runL_bad (h : (!validC c || !validFm f) = true) : runL f c l day = ([], -1, 1) := if_pos h
theorem runL_go (h : (!validC c || !validFm f) = false) : runL f c l day = runLGo f c [] 0 ((sortF (l.filter fun e => !decide (e.day > day))).drop 0) := by
  unfold runL; rw [if_neg (by rw [h]; decide)]; rfl
theorem goL_stop (hi : i < L.length) (h : ¬ (applyF c st L[i]).2 = 0) : runLGo f c st k (L.drop i) = ([], k, (applyF c st L[i]).2) := by
  rw [List.drop_eq_getElem_cons hi, runLGo, if_neg (by rw [applyL_code]; exact h), applyL_code]
theorem goL_plain (hi : i < L.length) (h : (applyF c st L[i]).2 = 0) (h4 : ¬ L[i].op = 4) : runLGo f c st k (L.drop i) = runLGo f c (applyF c st L[i]).1 (k + 1) (L.drop (i + 1)) := by
  rw [List.drop_eq_getElem_cons hi, runLGo, if_pos (by rw [applyL_code]; exact h)]
  unfold applyL
  rw [if_neg (fun hc => h4 hc.2)]
theorem goL_use (hi : i < L.length) (h : (applyF c st L[i]).2 = 0) (h4 : L[i].op = 4) : runLGo f c st k (L.drop i) = runLGo f c (useL (applyF c st L[i]).1 L[i] (damF f L[i].use)) (k + 1) (L.drop (i + 1)) := by
  rw [List.drop_eq_getElem_cons hi, runLGo, if_pos (by rw [applyL_code]; exact h)]
  unfold applyL
  rw [if_pos ⟨h, h4⟩]
theorem goL_end (hi : ¬ i < L.length) : runLGo f c st k (L.drop i) = (st, -1, 0) := by rw [List.drop_eq_nil_of_le (by omega)]; rfl
/-- up to a part -/
noncomputable def useUp (st : List Part) (e : Evt) (d : Ivl) (i : Nat) : List Part := (useL st e d).take i ++ st.drop i
theorem use_len : (useL st e d).length = st.length := by unfold useL; exact List.length_map ..
theorem useUp_len (i : Nat) : (useUp st e d i).length = st.length := by
  unfold useUp; rw [List.length_append, List.length_take, List.length_drop, use_len]; omega
theorem useUp_zero : useUp st e d 0 = st := by simp [useUp]
theorem useUp_all : useUp st e d st.length = useL st e d := by
  unfold useUp; rw [List.drop_length, List.append_nil, ← use_len (e := e) (d := d), List.take_length]
theorem useUp_at {i : Nat} (hi : i < st.length) : (useUp st e d i)[i]? = some st[i] := by
  unfold useUp
  rw [List.getElem?_append_right (by rw [List.length_take, use_len]; omega), List.length_take, use_len, Nat.min_eq_left (by omega), Nat.sub_self, List.getElem?_drop, Nat.add_zero]
  exact List.getElem?_eq_getElem hi
theorem useUp_succ {i : Nat} (hi : i < st.length) : useUp st e d (i + 1) = (useUp st e d i).set i ((useL st e d)[i]'(by rw [use_len]; exact hi)) := by
  unfold useUp
  have hl : ((useL st e d).take i).length = i := by rw [List.length_take, use_len]; omega
  rw [List.set_append_right _ _ (by omega), hl, Nat.sub_self, List.drop_eq_getElem_cons hi, List.set_cons_zero, ← take_succ_of (by rw [use_len]; exact hi), List.append_assoc]
  rfl
theorem use_yes' {i : Nat} (hi : i < st.length) {ns : List ByteArray} (hn : ∀ n, n ∈ ns ↔ InsP st e.part n) (h : st[i].name ∈ ns ++ [e.part]) : (useL st e d)[i]'(by rw [use_len]; exact hi) = addLife d e.use st[i] := by
  simp only [useL, List.getElem_map]
  rw [if_pos]
  rcases List.mem_append.1 h with h | h
  · exact .inr ((hn _).1 h)
  · exact .inl (List.mem_singleton.1 h)
theorem use_no' {i : Nat} (hi : i < st.length) {ns : List ByteArray} (hn : ∀ n, n ∈ ns ↔ InsP st e.part n) (h : ¬ st[i].name ∈ ns ++ [e.part]) : (useL st e d)[i]'(by rw [use_len]; exact hi) = st[i] := by
  simp only [useL, List.getElem_map]
  rw [if_neg]
  rintro (h1 | h1)
  · exact h (List.mem_append.2 (.inr (List.mem_singleton.2 h1)))
  · exact h (List.mem_append.2 (.inl ((hn _).2 h1)))
theorem useUp_no {i : Nat} (hi : i < st.length) {ns : List ByteArray} (hn : ∀ n, n ∈ ns ↔ InsP st e.part n) (h : ¬ st[i].name ∈ ns ++ [e.part]) : useUp st e d (i + 1) = useUp st e d i := by
  rw [useUp_succ hi, use_no' hi hn h]
  have h1 := useUp_at (e := e) (d := d) hi
  have hl : i < (useUp st e d i).length := by rw [useUp_len]; exact hi
  rw [List.getElem?_eq_getElem hl] at h1
  rw [← Option.some.inj h1]
  exact List.set_getElem_self hl
theorem run_pos (h : (applyF c st e).2 = 0) (h4 : e.op = 4) : 0 < st.length := by
  have h0 := h
  unfold applyF at h
  split at h
  · cases h
  · rw [if_neg (by omega)] at h
    unfold applyRest at h
    split at h
    · cases h
    · rename_i h2
      exact List.length_pos_of_mem (partP_mem (both_some h2).1)
end
/-! the range over an index -/
theorem ItS.Step.some {κ : Type} {enc : κ → Value} {kvs todo t' : List (κ × Value)} {S S' : ItS} {q : Option (κ × Value)} (h : ItS.Step enc kvs todo S q S' t') (hq : q.isSome = true) :
    ∃ p a b, todo = a ++ p :: b ∧ S'.Ok enc kvs ∧ S'.Todo enc (a ++ b) ∧ S'.At enc p ∧ q = .some p ∧ t' = a ++ b := by
  cases h with
  | over h => cases hq
  | come p a b S1 h h1 h2 h3 => exact ⟨p, a, b, h, h1, h2, h3, rfl, rfl⟩
theorem ItS.Step.none {κ : Type} {enc : κ → Value} {kvs todo t' : List (κ × Value)} {S S' : ItS} {q : Option (κ × Value)} (h : ItS.Step enc kvs todo S q S' t') (hq : q.isSome = false) : todo = [] ∧ q = .none ∧ S' = S := by
  cases h with
  | over h => exact ⟨h, rfl, rfl⟩
  | come p a b S1 h h1 h2 h3 => cases hq
theorem encNU_mid {todo : List NU} {a b : List (ByteArray × Value)} {p : ByteArray × Value} (h : encNU todo = a ++ p :: b) : ∃ n u a' b', todo = a' ++ (n, u) :: b' ∧ encNU a' = a ∧ encNU b' = b ∧ p = (n, .string u) := by
  unfold encNU at h
  obtain ⟨a', c', rfl, h2, h3⟩ := List.map_eq_append_iff.1 h
  obtain ⟨⟨n, u⟩, b', rfl, h4, h5⟩ := List.map_eq_cons_iff.1 h3
  exact ⟨n, u, a', b', rfl, h2, h5, h4.symm⟩
theorem ItS.Step.nu {R todo : List NU} {t' : List (ByteArray × Value)} {S S' : ItS} {q : Option (ByteArray × Value)} (h : ItS.Step Value.string (encNU R) (encNU todo) S q S' t') (hq : q.isSome = true) :
    ∃ (n u : ByteArray) (a b : List NU), todo = a ++ (n, u) :: b ∧ S'.Ok Value.string (encNU R) ∧ S'.Todo Value.string (encNU (a ++ b)) ∧ S'.At Value.string (n, .string u) ∧ q = .some (n, .string u) := by
  obtain ⟨p, a, b, h1, h2, h3, h4, h5, _⟩ := h.some hq
  obtain ⟨n, u, a', b', e1, e2, e3, e4⟩ := encNU_mid h1
  subst e4
  exact ⟨n, u, a', b', e1, h2, by rw [show encNU (a' ++ b') = encNU a' ++ encNU b' from List.map_append, e2, e3]; exact h3, h4, h5⟩
theorem ItS.Step.nuNone {R todo : List NU} {t' : List (ByteArray × Value)} {S S' : ItS} {q : Option (ByteArray × Value)} (h : ItS.Step Value.string (encNU R) (encNU todo) S q S' t') (hq : q.isSome = false) : todo = [] ∧ q = .none ∧ S' = S := by
  obtain ⟨h1, h2, h3⟩ := h.none hq
  exact ⟨by cases todo with | nil => rfl | cons p t => simp [encNU] at h1, h2, h3⟩
theorem perm_step {α : Type} {done todo a b kvs : List α} {p : α} (hP : (done ++ todo).Perm kvs) (h : todo = a ++ p :: b) : (done ++ [p] ++ (a ++ b)).Perm kvs := by
  subst h
  refine List.Perm.trans ?_ hP
  rw [List.append_assoc]
  refine List.Perm.append_left _ ?_
  exact (List.perm_middle (a := p) (l₁ := a) (l₂ := b)).symm
theorem perm_mem {α : Type} {done todo a b kvs : List α} {p : α} (hP : (done ++ todo).Perm kvs) (h : todo = a ++ p :: b) : p ∈ kvs := hP.mem_iff.1 (by rw [h]; simp)
theorem perm_new {done todo a b kvs : List (ByteArray × Value)} {p : ByteArray × Value} (hP : (done ++ todo).Perm kvs) (h : todo = a ++ p :: b) (hn : (kvs.map Prod.fst).Nodup) : p.1 ∉ done.map Prod.fst := fun hm => by
  have h1 := ((hP.map Prod.fst).nodup_iff).2 hn
  rw [List.map_append] at h1
  refine (List.nodup_append.1 h1).2.2 _ hm p.1 (List.mem_map_of_mem (by rw [h]; simp)) rfl
theorem fill_new {l : List Part} {ks : List ByteArray} {n : ByteArray} (h : n ∉ ks) : n ∉ (fillR l ks).map Prod.fst := fun hm => by
  rw [fill_fst] at hm; exact h (List.mem_filter.1 hm).1
theorem fill_mapY {l : List Part} {done : List (ByteArray × Value)} {p : ByteArray × Value} (h : upP l p.1 ≠ nil8) : fillR l ((done ++ [p]).map Prod.fst) = fillR l (done.map Prod.fst) ++ [(p.1, upP l p.1)] := by
  rw [List.map_append]; exact fill_yes h
theorem fill_mapN {l : List Part} {done : List (ByteArray × Value)} {p : ByteArray × Value} (h : upP l p.1 = nil8) : fillR l ((done ++ [p]).map Prod.fst) = fillR l (done.map Prod.fst) := by
  rw [List.map_append]; exact fill_no h
theorem fill_kn {l : List Part} {done kvs : List (ByteArray × Value)} (hn : (kvs.map Prod.fst).Nodup) (hd : done.Perm kvs) : ((fillR l (done.map Prod.fst)).map Prod.fst).Nodup := by
  rw [fill_fst]; exact List.filter_sublist.nodup (((hd.map _).nodup_iff).2 hn)
theorem flat_str {I : IMap} {ys : List Value} {m : List ByteArray} (h : Flat I ys m) : ys = (strCh m).flatten := by
  obtain ⟨xss, rfl, hC⟩ := FlatC.of h
  obtain rfl := str_of hC
  rfl
theorem set_at {xss : List (List Value)} {i : Nat} {c c' : List Value} (h : xss[i]? = some c) : (xss.set i c')[i]? = some c' := by
  have hi : i < xss.length := (List.getElem?_eq_some_iff.1 h).1
  rw [List.getElem?_set_self hi]
theorem chunk_at {I : IMap} {xss : List (List Value)} {l : List Part} {k : Nat} {p : Part} (hx : FlatC I xss l) (hk : l[k]? = some p) (rest : List (List Value)) : ∃ q, (xss ++ rest)[k]? = some (p.cells q) ∧ RdS I q p.props := by
  have hkl : k < l.length := (List.getElem?_eq_some_iff.1 hk).1
  obtain ⟨c, h1, h2⟩ := hx.at_ hkl
  rw [List.getElem?_eq_getElem hkl] at hk
  rw [Option.some.inj hk] at h2
  obtain ⟨q, rfl, hq⟩ := h2
  exact ⟨q, by rw [List.getElem?_append_left (List.getElem?_eq_some_iff.1 h1).1]; exact h1, hq⟩
/-! fields of the pieces of a block -/
section
variable {P : Program} {ρ : Option Nat} {n : Sz} {E : Ent} {I : IMap} {L : LL} {H : List Res} {Q : Exit → Act → World → Prop} {ops : Array Oper} {K : Act → World → Prop}
variable {d ty : Nat} {pos : String} {af : Array Edge} {x y : Operand} {xss : List (List Value)} {c : List Value} {g off tt t' k kk : Nat}
theorem cf_take (hU : Uk k xss) {i j : Nat} (hi : xss[i]? = some c) {vs : List Value} (hv : (c.drop j).take kk = vs) (hk : vs.length = kk) (hk0 : 0 < kk) : (xss.flatten.drop (i * k + j)).take kk = vs := by
  have h1 := flat_at hU hi
  have hc : c.length = k := hU c (List.mem_of_getElem? hi)
  have hjk : j + kk ≤ k := by
    have := congrArg List.length hv
    rw [List.length_take, List.length_drop] at this
    omega
  rw [← hv, ← h1, List.drop_take, List.take_take, List.drop_drop, Nat.min_eq_left (by omega)]
theorem v_ldcf (vs : List Value) (hm : Res.blk g t' xss.flatten ∈ H) (hU : Uk k xss) (ht : tyK P tt = some (true, kk)) (hx : ev L x = some (.pointer (some ⟨g, off, none⟩))) (i j : Nat) (ho : off = i * k + j) (hi : xss[i]? = some c) (hv : (c.drop j).take kk = vs) (hk : vs.length = kk) (hk0 : Nat.blt 0 kk = true) :
    OV P n E I L H ⟨some d, .load tt x, ty, pos, af, none⟩ (.agg vs.toArray) := v_ldp vs hm ht hx (by subst ho; exact cf_take hU hi hv hk (by simpa [Nat.blt_eq] using hk0)) hk
theorem v_ldc1 {v : Value} (hm : Res.blk g t' xss.flatten ∈ H) (hU : Uk k xss) (ht : tyK P tt = some (false, 1)) (hx : ev L x = some (.pointer (some ⟨g, off, none⟩))) (i j : Nat) (ho : off = i * k + j) (hi : xss[i]? = some c) (hv : c[j]? = some v) :
    OV P n E I L H ⟨some d, .load tt x, ty, pos, af, none⟩ v := v_ld hm ht hx (by
      subst ho
      have hj : j < c.length := (List.getElem?_eq_some_iff.1 hv).1
      have h1 := cf_take (kk := 1) hU hi (j := j) (vs := [v]) (by
        rw [List.drop_eq_getElem_cons hj]
        rw [List.getElem?_eq_getElem hj] at hv
        cases hv; rfl) rfl (by omega)
      have h2 := congrArg (·[0]?) h1
      simpa [List.getElem?_take, List.getElem?_drop] using h2)
theorem o_stcf {b : Bool} {v : Value} (vs c' : List Value) (hU : Uk k xss) (ht : tyK P tt = some (b, kk)) (hx : ev L x = some (.pointer (some ⟨g, off, none⟩))) (hy : ev L y = some v) (hv : v.cells = vs.toArray) (hk : vs.length = kk) (h1 : vs.all (·.oneCell') = true) (i j : Nat) (ho : off = i * k + j) (hi : xss[i]? = some c) (hjk : j + kk ≤ k) (hc : c.take j ++ (vs ++ c.drop (j + kk)) = c')
    (kk' : SX n E I L (.blk g t' (xss.set i c').flatten :: H) K) : SX n E I L (.blk g t' xss.flatten :: H) (one P ops Q ⟨none, .store tt x y, ty, pos, af, none⟩ K) := by
  subst ho
  have hil : i < xss.length := (List.getElem?_eq_some_iff.1 hi).1
  have hcl : c.length = k := hU c (List.mem_of_getElem? hi)
  have hc'l : c'.length = k := by
    rw [← hc, List.length_append, List.length_append, List.length_take, List.length_drop, hk]; omega
  have hspl : xss = xss.take i ++ c :: xss.drop (i + 1) := by
    have h2 : xss[i] = c := by rw [List.getElem?_eq_getElem hil] at hi; exact Option.some.inj hi
    rw [← h2, ← List.drop_eq_getElem_cons hil, List.take_append_drop]
  have hfl : xss.flatten = (xss.take i).flatten ++ (c ++ (xss.drop (i + 1)).flatten) := by
    conv => lhs; rw [hspl]
    simp
  have hpl : (xss.take i).flatten.length = i * k := by rw [flat_len (hU.take i), List.length_take, Nat.min_eq_left (by omega)]
  refine o_st vs _ ht hx hy hv hk ?_ h1 ?_ kk'
  · apply Nat.ble_eq_true_of_le
    rw [flat_len hU]
    have : (i + 1) * k ≤ xss.length * k := Nat.mul_le_mul_right _ hil
    rw [Nat.add_mul] at this
    omega
  · rw [List.set_eq_take_append_cons_drop, if_pos hil, hfl]
    rw [List.flatten_append, List.flatten_cons]
    have e1 : ((xss.take i).flatten ++ (c ++ (xss.drop (i + 1)).flatten)).take (i * k + j) = (xss.take i).flatten ++ c.take j := by
      rw [← hpl, List.take_length_add_append, List.take_append_of_le_length (by omega)]
    have e2 : ((xss.take i).flatten ++ (c ++ (xss.drop (i + 1)).flatten)).drop (i * k + j + kk) = c.drop (j + kk) ++ (xss.drop (i + 1)).flatten := by
      rw [← hpl, Nat.add_assoc, List.drop_length_add_append, List.drop_append_of_le_length (by omega)]
    rw [e1, e2, ← hc]
    simp
end
end Go.Sx

/- Loops with six to eight things that turn; meetings of ways with four to six. -/
set_option linter.all false
namespace Go.Sx
open Go
section
variable {P : Program} {ρ : Option Nat} {n : Sz} {E : Ent} {I I' : IMap} {L : LL} {H : List Res} {K : Act → World → Prop} {Q : Exit → Act → World → Prop} {N : Act → World → Prop}
variable {α β γ δ ε ζ η θ : Type}
def NextS8 (n : Sz) (E : Ent) (Ix : α → β → γ → δ → ε → ζ → η → θ → IMap) (Lx : α → β → γ → δ → ε → ζ → η → θ → LL) (Hx : α → β → γ → δ → ε → ζ → η → θ → List Res) (p : α → β → γ → δ → ε → ζ → η → θ → Prop) (μ : α → β → γ → δ → ε → ζ → η → θ → Nat) (x0 : α) (x1 : β) (x2 : γ) (x3 : δ) (x4 : ε) (x5 : ζ) (x6 : η) (x7 : θ) : Act → World → Prop :=
  fun a w => ∃ y0 y1 y2 y3 y4 y5 y6 y7, p y0 y1 y2 y3 y4 y5 y6 y7 ∧ μ y0 y1 y2 y3 y4 y5 y6 y7 < μ x0 x1 x2 x3 x4 x5 x6 x7 ∧ St n a (Lx y0 y1 y2 y3 y4 y5 y6 y7) ∧ Mem E (Ix y0 y1 y2 y3 y4 y5 y6 y7) (Hx y0 y1 y2 y3 y4 y5 y6 y7) w
theorem c_loop8 (a0 : α) (a1 : β) (a2 : γ) (a3 : δ) (a4 : ε) (a5 : ζ) (a6 : η) (a7 : θ) (Ix : α → β → γ → δ → ε → ζ → η → θ → IMap) (Lx : α → β → γ → δ → ε → ζ → η → θ → LL) (Hx : α → β → γ → δ → ε → ζ → η → θ → List Res) (p : α → β → γ → δ → ε → ζ → η → θ → Prop) (μ : α → β → γ → δ → ε → ζ → η → θ → Nat) {c : Code}
    (h0 : p a0 a1 a2 a3 a4 a5 a6 a7) (hI : Ix a0 a1 a2 a3 a4 a5 a6 a7 = I) (hL : Sub (Lx a0 a1 a2 a3 a4 a5 a6 a7) L) (hH : Hx a0 a1 a2 a3 a4 a5 a6 a7 = H)
    (round : ∀ x0 x1 x2 x3 x4 x5 x6 x7, p x0 x1 x2 x3 x4 x5 x6 x7 → SX n E (Ix x0 x1 x2 x3 x4 x5 x6 x7) (Lx x0 x1 x2 x3 x4 x5 x6 x7) (Hx x0 x1 x2 x3 x4 x5 x6 x7) (c.wq ρ P (Exit.then (NextS8 n E Ix Lx Hx p μ x0 x1 x2 x3 x4 x5 x6 x7) Q))) : SX n E I L H ((Code.loop c).wq ρ P Q) :=
  c_loop (α := α × β × γ × δ × ε × ζ × η × θ) (a0, a1, a2, a3, a4, a5, a6, a7) (fun q => Ix q.1 q.2.1 q.2.2.1 q.2.2.2.1 q.2.2.2.2.1 q.2.2.2.2.2.1 q.2.2.2.2.2.2.1 q.2.2.2.2.2.2.2) (fun q => Lx q.1 q.2.1 q.2.2.1 q.2.2.2.1 q.2.2.2.2.1 q.2.2.2.2.2.1 q.2.2.2.2.2.2.1 q.2.2.2.2.2.2.2) (fun q => Hx q.1 q.2.1 q.2.2.1 q.2.2.2.1 q.2.2.2.2.1 q.2.2.2.2.2.1 q.2.2.2.2.2.2.1 q.2.2.2.2.2.2.2) (fun q => p q.1 q.2.1 q.2.2.1 q.2.2.2.1 q.2.2.2.2.1 q.2.2.2.2.2.1 q.2.2.2.2.2.2.1 q.2.2.2.2.2.2.2) (fun q => μ q.1 q.2.1 q.2.2.1 q.2.2.2.1 q.2.2.2.2.1 q.2.2.2.2.2.1 q.2.2.2.2.2.2.1 q.2.2.2.2.2.2.2) h0 hI hL hH
    fun ⟨x0, x1, x2, x3, x4, x5, x6, x7⟩ hp => sx_mono (round x0 x1 x2 x3 x4 x5 x6 x7 hp) fun a w h => cwq_mono (fun e a w q => by
      cases e with
      | normal => obtain ⟨y0, y1, y2, y3, y4, y5, y6, y7, h1, h2, h3, h4⟩ := q; exact ⟨(y0, y1, y2, y3, y4, y5, y6, y7), h1, h2, h3, h4⟩
      | _ => exact q) h
theorem q_next8 {Ix : α → β → γ → δ → ε → ζ → η → θ → IMap} {Lx : α → β → γ → δ → ε → ζ → η → θ → LL} {Hx : α → β → γ → δ → ε → ζ → η → θ → List Res} {p : α → β → γ → δ → ε → ζ → η → θ → Prop} {μ : α → β → γ → δ → ε → ζ → η → θ → Nat} {x0 : α} {x1 : β} {x2 : γ} {x3 : δ} {x4 : ε} {x5 : ζ} {x6 : η} {x7 : θ} (y0 : α) (y1 : β) (y2 : γ) (y3 : δ) (y4 : ε) (y5 : ζ) (y6 : η) (y7 : θ) (hp : p y0 y1 y2 y3 y4 y5 y6 y7) (hμ : μ y0 y1 y2 y3 y4 y5 y6 y7 < μ x0 x1 x2 x3 x4 x5 x6 x7)
    (hI : Ix y0 y1 y2 y3 y4 y5 y6 y7 = I) (hL : Sub (Lx y0 y1 y2 y3 y4 y5 y6 y7) L) (hH : Hx y0 y1 y2 y3 y4 y5 y6 y7 = H) : SX n E I L H (NextS8 n E Ix Lx Hx p μ x0 x1 x2 x3 x4 x5 x6 x7) :=
  fun a w s m => ⟨y0, y1, y2, y3, y4, y5, y6, y7, hp, hμ, s.sub hL, by rw [hI, hH]; exact m⟩
end
end Go.Sx

