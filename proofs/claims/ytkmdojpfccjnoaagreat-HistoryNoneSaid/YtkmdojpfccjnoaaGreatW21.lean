/- Walks, printed by a program out of the code of the functions: each theorem is a contract of one function. -/
import Derived.Test.YtkmdojpfccjnoaaGreatW20
namespace Go.Proofs.YtkmdojpfccjnoaaGreat
open Go Go.Sx
set_option linter.all false
set_option maxRecDepth 20000
set_option maxHeartbeats 4000000
instance T.by_53 : Has (bytesK Tryz.prog 53) ([.int .i64 0, .int .i64 0, .string ⟨#[]⟩, .string ⟨#[]⟩, .string ⟨#[]⟩, .string ⟨#[]⟩, .string ⟨#[]⟩, .string ⟨#[]⟩, .int .i64 0, .int .i64 0, .int .i64 0, .int .i64 0, .int .i64 0, .int .i64 0], 14, 160) := ⟨by kernel_rfl⟩
theorem ref10with (I : IMap) (v : Value) (l : List Part) (hv : RdS I v l) (hl : l.length ≤ 1000000) (x : Part) (B : Option Addr) (d : Nat) (hr : Enc.rd I (x.cells (.slice B x.props.length d)) x) :
    FnI Tryz.prog 116 #[.agg #[v], .agg (x.cells (.slice B x.props.length d)).toArray] I (fun u J => ∃ w, u = .agg #[w] ∧ RdS J w (withF Part.name x l)) := by
 obtain ⟨A, c0, rfl, hA, hc, hm⟩ := hv
 refine enter Tryz.func116 Tryz.call116 rfl Tryz.ntmps116 rfl (fun w0 => ?_)
 refine go 3 ?_
 refine o_box _ rfl rfl rfl (fun g2 => ?_)
 refine go 1 ?_
 refine o_box _ rfl rfl rfl (fun g3 => ?_)
 refine go 1 ?_
 refine o_alloc he rfl (fun g4 => ?_)
 refine go 5 ?_
 refine o_alloc he rfl (fun g5 => ?_)
 refine go 4 ?_
 refine sx_nilrow 124 14 ?_
 refine go 10 ?_
 refine c_loop5 ((0 : Nat)) (_) ([]) (_) ([]) (fun i v xs b out => I)
  (fun i v xs b out => [(2, .pointer (some ⟨g2, 0, none⟩)), (3, .pointer (some ⟨g3, 0, none⟩)), (4, .pointer (some ⟨g4, 0, none⟩)), (5, .pointer (some ⟨g5, 0, none⟩)), (6, .bool b), (7, .int .i64 ((i : Nat) : Int))])
  (fun i v xs b out => [.row v 124 14 out.length xs, .blk g5 69 [v], .blk g4 69 [.slice none 0 0], .blk g3 124 (x.cells (.slice B x.props.length d)), .blk g2 69 [.slice A l.length c0]])
  (fun i v xs b out => i ≤ l.length ∧ wF Part.name x (l.take i) = (out, b) ∧ Flat I xs out)
  (fun i v xs b out => l.length - i) ⟨Nat.zero_le _, rfl, .nil⟩ rfl sb rfl ?_
 intro i v xs b out ⟨hi, hw, hF⟩
 have hol := w_le hw
 refine go 10 ?_
 refine cb rfl (fun h12 p12 => ?_) (fun h12 p12 => ?_)
 ·have hlt : i < l.length := by omega
  refine go 6 ?_
  refine d_startH T.mixed ?_
  refine d_tv 0 rfl rfl (by kernel_rfl) rfl (.refl _) rfl (v_move rfl) ?_
  refine d_tv 1 rfl rfl (by kernel_rfl) rfl (.refl _) rfl (v_not rfl) ?_
  refine d_tv 2 rfl rfl (by kernel_rfl) rfl (.refl _) rfl (v_move rfl) ?_
  refine sxb 17 rfl (fun h17 p17 => ?_) (fun h17 p17 => ?_)
  ·refine d_t 3 rfl rfl (by kernel_rfl) rfl (fun _ m => m.keeps (.refl _)) (y_yes rfl rfl h17 (v_fieldAddr he rfl)) ?_
   refine d_t 4 rfl rfl (by kernel_rfl) rfl (fun _ m => m.keeps (.refl _)) (y_yes rfl rfl h17 (v_ld m4 he rfl rfl)) ?_
   refine d_t 5 rfl rfl (by kernel_rfl) rfl (fun _ m => m.keeps (.refl _)) (y_yes rfl rfl h17 (v_move rfl)) ?_
   obtain ⟨b21, o21, w21, e21, c21, r21⟩ := RdA.at_ hA (i := i) hlt
   obtain ⟨q21, rfl, B21, d21, rfl, hB21, hd21, hm21⟩ := r21
   refine d_t 6 rfl rfl (by kernel_rfl) rfl (fun _ m => m.keeps (.refl _)) (y_yes rfl rfl h17 (v_idx he rfl rfl e21 (i) (by omega) hlt)) ?_
   refine d_t 7 rfl rfl (by kernel_rfl) rfl (fun _ m => m.keeps (.refl _)) (y_yes rfl rfl h17 (v_fieldAddr he rfl)) ?_
   refine d_t 8 rfl rfl (by kernel_rfl) rfl (fun _ m => m.keeps (.refl _)) (y_yes rfl rfl h17 (v_ldI he rfl (c21 0 _ rfl))) ?_
   refine d_t 9 rfl rfl (by kernel_rfl) rfl (fun _ m => m.keeps (.refl _)) (y_yes rfl rfl h17 (v_fieldAddr he rfl)) ?_
   refine d_t 10 rfl rfl (by kernel_rfl) rfl (fun _ m => m.keeps (.refl _)) (y_yes rfl rfl h17 (v_ld m3 he rfl rfl)) ?_
   refine d_t 11 rfl rfl (by kernel_rfl) rfl (fun _ m => m.keeps (.refl _)) (y_yes rfl rfl h17 (v_sgeq rfl rfl)) ?_
   refine d_tv 12 rfl rfl (by kernel_rfl) rfl (.refl _) rfl (v_and_t h17 rfl rfl) ?_
   refine d_done (by kernel_rfl) ?_
   refine go 1 ?_
   refine cb rfl (fun h27 p27 => ?_) (fun h27 p27 => ?_)
   ·refine go 6 ?_
    refine o_buildSlice he he rfl rfl rfl rfl rfl rfl rfl (fun v31 => ?_)
    refine go 1 ?_
    refine bring1 ?_
    refine o_appendO he he rfl rfl rfl rfl rfl (by omega) (by omega) rfl (fun v32 => ?_)
    refine sx_row1 (fun u => ?_)
    refine go 2 ?_
    refine bring2 ?_
    refine o_st1 he rfl rfl u rfl ?_
    refine go 7 ?_
    refine d_startH T.mixed ?_
    refine d_tv 0 rfl rfl (by kernel_rfl) rfl (.refl _) rfl (v_fieldAddr he rfl) ?_
    refine d_tv 1 rfl rfl (by kernel_rfl) rfl (.refl _) rfl (v_ld m5 he rfl rfl) ?_
    refine d_tv 2 rfl rfl (by kernel_rfl) rfl (.refl _) rfl (v_move rfl) ?_
    obtain ⟨b37, o37, w37, e37, c37, r37⟩ := RdA.at_ hA (i := i) hlt
    obtain ⟨q37, rfl, B37, d37, rfl, hB37, hd37, hm37⟩ := r37
    refine d_tv 3 rfl rfl (by kernel_rfl) rfl (.refl _) rfl (v_idx he rfl rfl e37 (i) (by omega) hlt) ?_
    refine d_tv 4 rfl rfl (by kernel_rfl) rfl (.refl _) rfl (v_fieldAddr he rfl) ?_
    refine d_tv 5 rfl rfl (by kernel_rfl) rfl (.refl _) rfl (v_ldI he rfl (c37 0 _ rfl)) ?_
    refine d_tv 6 rfl rfl (by kernel_rfl) rfl (.refl _) rfl (v_fieldAddr he rfl) ?_
    refine d_tv 7 rfl rfl (by kernel_rfl) rfl (.refl _) rfl (v_ld m4 he rfl rfl) ?_
    refine d_tv 8 rfl rfl (by kernel_rfl) rfl (.refl _) rfl (v_sneq rfl rfl) ?_
    refine d_done (by kernel_rfl) ?_
    refine go 1 ?_
    refine cb rfl (fun h42 p42 => ?_) (fun h42 p42 => ?_)
    ·refine bring1 ?_
     refine d_start2 T.mixed ?_
     refine d_tv 0 rfl rfl (by kernel_rfl) rfl (.cons _ (.cons _ (.refl _))) rfl (v_fieldAddr he rfl) ?_
     refine d_tv 2 rfl rfl (by kernel_rfl) rfl (.cons _ (.cons _ (.refl _))) rfl (v_fieldAddr he rfl) ?_
     refine d_tv 3 rfl rfl (by kernel_rfl) rfl (.cons _ (.cons _ (.refl _))) rfl (v_ld m3 he rfl rfl) ?_
     refine d_tv 4 rfl rfl (by kernel_rfl) rfl (.cons _ (.cons _ (.refl _))) rfl (v_move rfl) ?_
     obtain ⟨b48, o48, w48, e48, c48, r48⟩ := RdA.at_ hA (i := i) hlt
     obtain ⟨q48, rfl, B48, d48, rfl, hB48, hd48, hm48⟩ := r48
     refine d_tv 5 rfl rfl (by kernel_rfl) rfl (.cons _ (.cons _ (.refl _))) rfl (v_idx he rfl rfl e48 (i) (by omega) hlt) ?_
     refine d_tv 6 rfl rfl (by kernel_rfl) rfl (.cons _ (.cons _ (.refl _))) rfl (v_ldIa he rfl c48 rfl) ?_
     refine d_two 1 7 (by kernel_rfl) rfl rfl ?_ ?_
     ·refine o_val rfl (v_ld m1 he rfl rfl) ?_
      refine d_on (fun _ m => m.keeps (.cons _ (.cons _ (.refl _)))) ?_
      refine d_one 7 (by kernel_rfl) rfl ?_
      refine o_buildSlice he he rfl rfl rfl rfl rfl rfl rfl (fun v50 => ?_)
      refine d_on (fun _ m => m.keeps (.cons _ (.cons _ (.cons _ (.refl _))))) ?_
      refine d_one 8 (by kernel_rfl) rfl ?_
      refine bring1 ?_
      refine o_appendO he he rfl rfl rfl rfl rfl (by omega) (by omega) rfl (fun v51 => ?_)
      refine sx_row1 (fun u => ?_)
      refine d_on (fun _ m => m.keeps (.cons _ (.cons _ (.cons _ (.refl _))))) ?_
      refine d_tv 9 rfl rfl (by kernel_rfl) rfl (.cons _ (.cons _ (.cons _ (.refl _)))) rfl (v_fieldAddr he rfl) ?_
      refine d_one 10 (by kernel_rfl) rfl ?_
      refine bring2 ?_
      refine o_st1 he rfl rfl u rfl ?_
      refine d_on (fun _ m => m.keeps (.cons _ (.cons _ (.cons _ (.refl _))))) ?_
      refine d_done (by kernel_rfl) ?_
      refine go 8 ?_
      refine bring2 ?_
      refine sx_drop ?_
      refine bring2 ?_
      refine sx_drop ?_
      refine bring4 ?_
      refine bring4 ?_
      refine bring4 ?_
      refine bring3 ?_
      refine bring4 ?_
      exact q_next5 (i + 1) (_) (_) (_) (out ++ [x] ++ [l[i]]) ⟨by omega, wF_tt hlt hw h17 h27 h42, (hF.append (.one hr)).append (.one ⟨_, rfl, B48, d48, rfl, hB48, hd48, hm48⟩)⟩ (by omega) rfl sb (by first | rfl | (simp only [List.length_append, List.length_singleton]; rfl) | simp only [List.length_append, List.length_singleton])
     ·refine o_buildSlice he he rfl rfl rfl rfl rfl rfl rfl (fun v50 => ?_)
      refine d_on (fun _ m => m.keeps (.cons _ (.cons _ (.cons _ (.refl _))))) ?_
      refine d_one 1 (by kernel_rfl) rfl ?_
      refine o_val rfl (v_ld m2 he rfl rfl) ?_
      refine d_on (fun _ m => m.keeps (.cons _ (.cons _ (.cons _ (.refl _))))) ?_
      refine d_one 8 (by kernel_rfl) rfl ?_
      refine bring1 ?_
      refine o_appendO he he rfl rfl rfl rfl rfl (by omega) (by omega) rfl (fun v51 => ?_)
      refine sx_row1 (fun u => ?_)
      refine d_on (fun _ m => m.keeps (.cons _ (.cons _ (.cons _ (.refl _))))) ?_
      refine d_tv 9 rfl rfl (by kernel_rfl) rfl (.cons _ (.cons _ (.cons _ (.refl _)))) rfl (v_fieldAddr he rfl) ?_
      refine d_one 10 (by kernel_rfl) rfl ?_
      refine bring2 ?_
      refine o_st1 he rfl rfl u rfl ?_
      refine d_on (fun _ m => m.keeps (.cons _ (.cons _ (.cons _ (.refl _))))) ?_
      refine d_done (by kernel_rfl) ?_
      refine go 8 ?_
      refine bring2 ?_
      refine sx_drop ?_
      refine bring2 ?_
      refine sx_drop ?_
      refine bring4 ?_
      refine bring4 ?_
      refine bring4 ?_
      refine bring3 ?_
      refine bring4 ?_
      exact q_next5 (i + 1) (_) (_) (_) (out ++ [x] ++ [l[i]]) ⟨by omega, wF_tt hlt hw h17 h27 h42, (hF.append (.one hr)).append (.one ⟨_, rfl, B48, d48, rfl, hB48, hd48, hm48⟩)⟩ (by omega) rfl sb (by first | rfl | (simp only [List.length_append, List.length_singleton]; rfl) | simp only [List.length_append, List.length_singleton])
    ·refine go 9 ?_
     refine bring2 ?_
     refine sx_drop ?_
     refine bring4 ?_
     refine bring4 ?_
     refine bring4 ?_
     refine bring3 ?_
     refine bring4 ?_
     exact q_next5 (i + 1) (_) (_) (_) (out ++ [x]) ⟨by omega, wF_tf hlt hw h17 h27 h42, hF.append (.one hr)⟩ (by omega) rfl sb (by first | rfl | (simp only [List.length_append, List.length_singleton]; rfl) | simp only [List.length_append, List.length_singleton])
   ·refine go 3 ?_
    refine d_startH T.mixed ?_
    refine d_tv 0 rfl rfl (by kernel_rfl) rfl (.refl _) rfl (v_fieldAddr he rfl) ?_
    refine d_tv 1 rfl rfl (by kernel_rfl) rfl (.refl _) rfl (v_ld m4 he rfl rfl) ?_
    refine d_tv 2 rfl rfl (by kernel_rfl) rfl (.refl _) rfl (v_move rfl) ?_
    obtain ⟨b37, o37, w37, e37, c37, r37⟩ := RdA.at_ hA (i := i) hlt
    obtain ⟨q37, rfl, B37, d37, rfl, hB37, hd37, hm37⟩ := r37
    refine d_tv 3 rfl rfl (by kernel_rfl) rfl (.refl _) rfl (v_idx he rfl rfl e37 (i) (by omega) hlt) ?_
    refine d_tv 4 rfl rfl (by kernel_rfl) rfl (.refl _) rfl (v_fieldAddr he rfl) ?_
    refine d_tv 5 rfl rfl (by kernel_rfl) rfl (.refl _) rfl (v_ldI he rfl (c37 0 _ rfl)) ?_
    refine d_tv 6 rfl rfl (by kernel_rfl) rfl (.refl _) rfl (v_fieldAddr he rfl) ?_
    refine d_tv 7 rfl rfl (by kernel_rfl) rfl (.refl _) rfl (v_ld m3 he rfl rfl) ?_
    refine d_tv 8 rfl rfl (by kernel_rfl) rfl (.refl _) rfl (v_sneq rfl rfl) ?_
    refine d_done (by kernel_rfl) ?_
    refine go 1 ?_
    refine cb rfl (fun h42 p42 => ?_) (fun h42 p42 => ?_)
    ·refine bring1 ?_
     refine bring1 ?_
     refine d_start2 T.mixed ?_
     refine d_tv 0 rfl rfl (by kernel_rfl) rfl (.cons _ (.cons _ (.refl _))) rfl (v_fieldAddr he rfl) ?_
     refine d_tv 2 rfl rfl (by kernel_rfl) rfl (.cons _ (.cons _ (.refl _))) rfl (v_fieldAddr he rfl) ?_
     refine d_tv 3 rfl rfl (by kernel_rfl) rfl (.cons _ (.cons _ (.refl _))) rfl (v_ld m2 he rfl rfl) ?_
     refine d_tv 4 rfl rfl (by kernel_rfl) rfl (.cons _ (.cons _ (.refl _))) rfl (v_move rfl) ?_
     obtain ⟨b48, o48, w48, e48, c48, r48⟩ := RdA.at_ hA (i := i) hlt
     obtain ⟨q48, rfl, B48, d48, rfl, hB48, hd48, hm48⟩ := r48
     refine d_tv 5 rfl rfl (by kernel_rfl) rfl (.cons _ (.cons _ (.refl _))) rfl (v_idx he rfl rfl e48 (i) (by omega) hlt) ?_
     refine d_tv 6 rfl rfl (by kernel_rfl) rfl (.cons _ (.cons _ (.refl _))) rfl (v_ldIa he rfl c48 rfl) ?_
     refine d_two 1 7 (by kernel_rfl) rfl rfl ?_ ?_
     ·refine o_val rfl (v_ld m1 he rfl rfl) ?_
      refine d_on (fun _ m => m.keeps (.cons _ (.cons _ (.refl _)))) ?_
      refine d_one 7 (by kernel_rfl) rfl ?_
      refine o_buildSlice he he rfl rfl rfl rfl rfl rfl rfl (fun v50 => ?_)
      refine d_on (fun _ m => m.keeps (.cons _ (.cons _ (.cons _ (.refl _))))) ?_
      refine d_one 8 (by kernel_rfl) rfl ?_
      refine bring1 ?_
      refine o_appendO he he rfl rfl rfl rfl rfl (by omega) (by omega) rfl (fun v51 => ?_)
      refine sx_row1 (fun u => ?_)
      refine d_on (fun _ m => m.keeps (.cons _ (.cons _ (.cons _ (.refl _))))) ?_
      refine d_tv 9 rfl rfl (by kernel_rfl) rfl (.cons _ (.cons _ (.cons _ (.refl _)))) rfl (v_fieldAddr he rfl) ?_
      refine d_one 10 (by kernel_rfl) rfl ?_
      refine bring2 ?_
      refine o_st1 he rfl rfl u rfl ?_
      refine d_on (fun _ m => m.keeps (.cons _ (.cons _ (.cons _ (.refl _))))) ?_
      refine d_done (by kernel_rfl) ?_
      refine go 8 ?_
      refine bring2 ?_
      refine sx_drop ?_
      refine bring4 ?_
      refine bring4 ?_
      refine bring4 ?_
      refine bring3 ?_
      refine bring4 ?_
      exact q_next5 (i + 1) (_) (_) (_) (out ++ [l[i]]) ⟨by omega, wF_ft hlt hw (by rw [h17, h27]; rfl) h42, hF.append (.one ⟨_, rfl, B48, d48, rfl, hB48, hd48, hm48⟩)⟩ (by omega) rfl sb (by first | rfl | (simp only [List.length_append, List.length_singleton]; rfl) | simp only [List.length_append, List.length_singleton])
     ·refine o_buildSlice he he rfl rfl rfl rfl rfl rfl rfl (fun v50 => ?_)
      refine d_on (fun _ m => m.keeps (.cons _ (.cons _ (.cons _ (.refl _))))) ?_
      refine d_one 1 (by kernel_rfl) rfl ?_
      refine o_val rfl (v_ld m2 he rfl rfl) ?_
      refine d_on (fun _ m => m.keeps (.cons _ (.cons _ (.cons _ (.refl _))))) ?_
      refine d_one 8 (by kernel_rfl) rfl ?_
      refine bring1 ?_
      refine o_appendO he he rfl rfl rfl rfl rfl (by omega) (by omega) rfl (fun v51 => ?_)
      refine sx_row1 (fun u => ?_)
      refine d_on (fun _ m => m.keeps (.cons _ (.cons _ (.cons _ (.refl _))))) ?_
      refine d_tv 9 rfl rfl (by kernel_rfl) rfl (.cons _ (.cons _ (.cons _ (.refl _)))) rfl (v_fieldAddr he rfl) ?_
      refine d_one 10 (by kernel_rfl) rfl ?_
      refine bring2 ?_
      refine o_st1 he rfl rfl u rfl ?_
      refine d_on (fun _ m => m.keeps (.cons _ (.cons _ (.cons _ (.refl _))))) ?_
      refine d_done (by kernel_rfl) ?_
      refine go 8 ?_
      refine bring2 ?_
      refine sx_drop ?_
      refine bring4 ?_
      refine bring4 ?_
      refine bring4 ?_
      refine bring3 ?_
      refine bring4 ?_
      exact q_next5 (i + 1) (_) (_) (_) (out ++ [l[i]]) ⟨by omega, wF_ft hlt hw (by rw [h17, h27]; rfl) h42, hF.append (.one ⟨_, rfl, B48, d48, rfl, hB48, hd48, hm48⟩)⟩ (by omega) rfl sb (by first | rfl | (simp only [List.length_append, List.length_singleton]; rfl) | simp only [List.length_append, List.length_singleton])
    ·refine go 9 ?_
     exact q_next5 (i + 1) (_) (_) (_) (out) ⟨by omega, wF_ff hlt hw (by rw [h17, h27]; rfl) h42, hF⟩ (by omega) rfl sb (by first | rfl | (simp only [List.length_append, List.length_singleton]; rfl) | simp only [List.length_append, List.length_singleton])
  ·refine d_t 3 rfl rfl (by kernel_rfl) rfl (fun _ m => m.keeps (.refl _)) (y_no rfl rfl h17) ?_
   refine d_t 4 rfl rfl (by kernel_rfl) rfl (fun _ m => m.keeps (.refl _)) (y_no rfl rfl h17) ?_
   refine d_t 5 rfl rfl (by kernel_rfl) rfl (fun _ m => m.keeps (.refl _)) (y_no rfl rfl h17) ?_
   refine d_t 6 rfl rfl (by kernel_rfl) rfl (fun _ m => m.keeps (.refl _)) (y_no rfl rfl h17) ?_
   refine d_t 7 rfl rfl (by kernel_rfl) rfl (fun _ m => m.keeps (.refl _)) (y_no rfl rfl h17) ?_
   refine d_t 8 rfl rfl (by kernel_rfl) rfl (fun _ m => m.keeps (.refl _)) (y_no rfl rfl h17) ?_
   refine d_t 9 rfl rfl (by kernel_rfl) rfl (fun _ m => m.keeps (.refl _)) (y_no rfl rfl h17) ?_
   refine d_t 10 rfl rfl (by kernel_rfl) rfl (fun _ m => m.keeps (.refl _)) (y_no rfl rfl h17) ?_
   refine d_t 11 rfl rfl (by kernel_rfl) rfl (fun _ m => m.keeps (.refl _)) (y_no rfl rfl h17) ?_
   refine d_tv 12 rfl rfl (by kernel_rfl) rfl (.refl _) rfl (v_and_f h17 rfl) ?_
   refine d_done (by kernel_rfl) ?_
   refine go 1 ?_
   refine c_false rfl ?_
   refine go 3 ?_
   refine d_startH T.mixed ?_
   refine d_tv 0 rfl rfl (by kernel_rfl) rfl (.refl _) rfl (v_fieldAddr he rfl) ?_
   refine d_tv 1 rfl rfl (by kernel_rfl) rfl (.refl _) rfl (v_ld m4 he rfl rfl) ?_
   refine d_tv 2 rfl rfl (by kernel_rfl) rfl (.refl _) rfl (v_move rfl) ?_
   obtain ⟨b37, o37, w37, e37, c37, r37⟩ := RdA.at_ hA (i := i) hlt
   obtain ⟨q37, rfl, B37, d37, rfl, hB37, hd37, hm37⟩ := r37
   refine d_tv 3 rfl rfl (by kernel_rfl) rfl (.refl _) rfl (v_idx he rfl rfl e37 (i) (by omega) hlt) ?_
   refine d_tv 4 rfl rfl (by kernel_rfl) rfl (.refl _) rfl (v_fieldAddr he rfl) ?_
   refine d_tv 5 rfl rfl (by kernel_rfl) rfl (.refl _) rfl (v_ldI he rfl (c37 0 _ rfl)) ?_
   refine d_tv 6 rfl rfl (by kernel_rfl) rfl (.refl _) rfl (v_fieldAddr he rfl) ?_
   refine d_tv 7 rfl rfl (by kernel_rfl) rfl (.refl _) rfl (v_ld m3 he rfl rfl) ?_
   refine d_tv 8 rfl rfl (by kernel_rfl) rfl (.refl _) rfl (v_sneq rfl rfl) ?_
   refine d_done (by kernel_rfl) ?_
   refine go 1 ?_
   refine cb rfl (fun h42 p42 => ?_) (fun h42 p42 => ?_)
   ·refine bring1 ?_
    refine bring1 ?_
    refine d_start2 T.mixed ?_
    refine d_tv 0 rfl rfl (by kernel_rfl) rfl (.cons _ (.cons _ (.refl _))) rfl (v_fieldAddr he rfl) ?_
    refine d_tv 2 rfl rfl (by kernel_rfl) rfl (.cons _ (.cons _ (.refl _))) rfl (v_fieldAddr he rfl) ?_
    refine d_tv 3 rfl rfl (by kernel_rfl) rfl (.cons _ (.cons _ (.refl _))) rfl (v_ld m2 he rfl rfl) ?_
    refine d_tv 4 rfl rfl (by kernel_rfl) rfl (.cons _ (.cons _ (.refl _))) rfl (v_move rfl) ?_
    obtain ⟨b48, o48, w48, e48, c48, r48⟩ := RdA.at_ hA (i := i) hlt
    obtain ⟨q48, rfl, B48, d48, rfl, hB48, hd48, hm48⟩ := r48
    refine d_tv 5 rfl rfl (by kernel_rfl) rfl (.cons _ (.cons _ (.refl _))) rfl (v_idx he rfl rfl e48 (i) (by omega) hlt) ?_
    refine d_tv 6 rfl rfl (by kernel_rfl) rfl (.cons _ (.cons _ (.refl _))) rfl (v_ldIa he rfl c48 rfl) ?_
    refine d_two 1 7 (by kernel_rfl) rfl rfl ?_ ?_
    ·refine o_val rfl (v_ld m1 he rfl rfl) ?_
     refine d_on (fun _ m => m.keeps (.cons _ (.cons _ (.refl _)))) ?_
     refine d_one 7 (by kernel_rfl) rfl ?_
     refine o_buildSlice he he rfl rfl rfl rfl rfl rfl rfl (fun v50 => ?_)
     refine d_on (fun _ m => m.keeps (.cons _ (.cons _ (.cons _ (.refl _))))) ?_
     refine d_one 8 (by kernel_rfl) rfl ?_
     refine bring1 ?_
     refine o_appendO he he rfl rfl rfl rfl rfl (by omega) (by omega) rfl (fun v51 => ?_)
     refine sx_row1 (fun u => ?_)
     refine d_on (fun _ m => m.keeps (.cons _ (.cons _ (.cons _ (.refl _))))) ?_
     refine d_tv 9 rfl rfl (by kernel_rfl) rfl (.cons _ (.cons _ (.cons _ (.refl _)))) rfl (v_fieldAddr he rfl) ?_
     refine d_one 10 (by kernel_rfl) rfl ?_
     refine bring2 ?_
     refine o_st1 he rfl rfl u rfl ?_
     refine d_on (fun _ m => m.keeps (.cons _ (.cons _ (.cons _ (.refl _))))) ?_
     refine d_done (by kernel_rfl) ?_
     refine go 8 ?_
     refine bring2 ?_
     refine sx_drop ?_
     refine bring4 ?_
     refine bring4 ?_
     refine bring4 ?_
     refine bring3 ?_
     refine bring4 ?_
     exact q_next5 (i + 1) (_) (_) (_) (out ++ [l[i]]) ⟨by omega, wF_ft hlt hw (by rw [h17]; rfl) h42, hF.append (.one ⟨_, rfl, B48, d48, rfl, hB48, hd48, hm48⟩)⟩ (by omega) rfl sb (by first | rfl | (simp only [List.length_append, List.length_singleton]; rfl) | simp only [List.length_append, List.length_singleton])
    ·refine o_buildSlice he he rfl rfl rfl rfl rfl rfl rfl (fun v50 => ?_)
     refine d_on (fun _ m => m.keeps (.cons _ (.cons _ (.cons _ (.refl _))))) ?_
     refine d_one 1 (by kernel_rfl) rfl ?_
     refine o_val rfl (v_ld m2 he rfl rfl) ?_
     refine d_on (fun _ m => m.keeps (.cons _ (.cons _ (.cons _ (.refl _))))) ?_
     refine d_one 8 (by kernel_rfl) rfl ?_
     refine bring1 ?_
     refine o_appendO he he rfl rfl rfl rfl rfl (by omega) (by omega) rfl (fun v51 => ?_)
     refine sx_row1 (fun u => ?_)
     refine d_on (fun _ m => m.keeps (.cons _ (.cons _ (.cons _ (.refl _))))) ?_
     refine d_tv 9 rfl rfl (by kernel_rfl) rfl (.cons _ (.cons _ (.cons _ (.refl _)))) rfl (v_fieldAddr he rfl) ?_
     refine d_one 10 (by kernel_rfl) rfl ?_
     refine bring2 ?_
     refine o_st1 he rfl rfl u rfl ?_
     refine d_on (fun _ m => m.keeps (.cons _ (.cons _ (.cons _ (.refl _))))) ?_
     refine d_done (by kernel_rfl) ?_
     refine go 8 ?_
     refine bring2 ?_
     refine sx_drop ?_
     refine bring4 ?_
     refine bring4 ?_
     refine bring4 ?_
     refine bring3 ?_
     refine bring4 ?_
     exact q_next5 (i + 1) (_) (_) (_) (out ++ [l[i]]) ⟨by omega, wF_ft hlt hw (by rw [h17]; rfl) h42, hF.append (.one ⟨_, rfl, B48, d48, rfl, hB48, hd48, hm48⟩)⟩ (by omega) rfl sb (by first | rfl | (simp only [List.length_append, List.length_singleton]; rfl) | simp only [List.length_append, List.length_singleton])
   ·refine go 9 ?_
    exact q_next5 (i + 1) (_) (_) (_) (out) ⟨by omega, wF_ff hlt hw (by rw [h17]; rfl) h42, hF⟩ (by omega) rfl sb (by first | rfl | (simp only [List.length_append, List.length_singleton]; rfl) | simp only [List.length_append, List.length_singleton])
 ·have e : i = l.length := (by omega)
  subst e
  rw [List.take_length] at hw
  refine sx_row1 (fun u => ?_)
  refine go 12 ?_
  refine cb rfl (fun h54 p54 => ?_) (fun h54 p54 => ?_)
  ·refine go 5 ?_
   refine o_buildSlice he he rfl rfl rfl rfl rfl rfl rfl (fun v58 => ?_)
   refine go 1 ?_
   refine bring1 ?_
   refine o_appendO he he rfl rfl rfl rfl rfl (by omega) (by omega) rfl (fun v59 => ?_)
   refine sx_row1 (fun u => ?_)
   refine go 2 ?_
   refine bring2 ?_
   refine o_st1 he rfl rfl u rfl ?_
   refine go 6 ?_
   refine bring3 ?_
   refine o_stw _ he rfl rfl rfl rfl rfl (row_all u) ?_
   refine go 3 ?_
   refine fin1 rfl ⟨_, _, _, rfl, m0, .inr ⟨_, he, rfl, rfl⟩⟩ ?_
   refine sx_drop ?_
   refine sx_drop ?_
   refine bring1 ?_
   refine sx_drop ?_
   refine bring1 ?_
   refine sx_drop ?_
   refine bring1 ?_
   refine sx_drop ?_
   refine sx_pubrow (l := out ++ [x]) rfl (by simp) (hF.append (.one hr)) (fun I9 j9 R9 => ?_)
   exact q_i ⟨_, rfl, by rw [with_t hw h54]; exact R9⟩
  ·refine go 6 ?_
   refine bring2 ?_
   refine o_stw _ he rfl rfl rfl rfl rfl (row_all u) ?_
   refine go 3 ?_
   refine fin1 rfl ⟨_, _, _, rfl, m0, .inr ⟨_, he, rfl, rfl⟩⟩ ?_
   refine sx_drop ?_
   refine bring1 ?_
   refine sx_drop ?_
   refine bring1 ?_
   refine sx_drop ?_
   refine bring1 ?_
   refine sx_drop ?_
   refine sx_pubrow (l := out) rfl rfl hF (fun I9 j9 R9 => ?_)
   exact q_i ⟨_, rfl, by rw [with_f hw h54]; exact R9⟩

theorem ref10Note (I : IMap) (v : Value) (l : List Prp) (hv : RdS I v l) (hl : l.length ≤ 1000000) (s t : ByteArray) :
    FnI Tryz.prog 118 #[v, .string s, .string t] I (fun u J => RdS J u (withF Prp.key ⟨s, t⟩ l)) := by
 obtain ⟨A, c0, rfl, hA, hc, hm⟩ := hv
 refine enter Tryz.func118 Tryz.call118 rfl Tryz.ntmps118 rfl (fun w0 => ?_)
 refine go 7 ?_
 refine sx_nilrow 137 2 ?_
 refine go 15 ?_
 refine c_loop5 ((0 : Nat)) (_) ([]) (_) ([]) (fun i v xs b out => I)
  (fun i v xs b out => [(0, .slice A l.length c0), (1, .string s), (2, .string t), (7, v), (8, .bool b), (9, .int .i64 ((i : Nat) : Int))])
  (fun i v xs b out => [.row v 137 2 out.length xs])
  (fun i v xs b out => i ≤ l.length ∧ wF Prp.key ⟨s, t⟩ (l.take i) = (out, b) ∧ Flat I xs out)
  (fun i v xs b out => l.length - i) ⟨Nat.zero_le _, rfl, .nil⟩ rfl sb rfl ?_
 intro i v xs b out ⟨hi, hw, hF⟩
 have hol := w_le hw
 refine go 9 ?_
 refine cb rfl (fun h13 p13 => ?_) (fun h13 p13 => ?_)
 ·have hlt : i < l.length := by omega
  refine go 10 ?_
  refine sxb 18 rfl (fun h18 p18 => ?_) (fun h18 p18 => ?_)
  ·refine go 2 ?_
   obtain ⟨b21, o21, w21, e21, c21, r21⟩ := RdA.at_ hA (i := i) hlt
   obtain rfl := r21
   refine o_cons (o_yes rfl rfl h18 (o_val rfl (v_idx he rfl rfl e21 (i) (by omega) hlt) ?_))
   refine go 1 ?_
   refine o_cons (o_yes rfl rfl h18 (o_val rfl (v_ldI he rfl (c21 0 _ rfl)) ?_))
   refine go 5 ?_
   refine cb rfl (fun h26 p26 => ?_) (fun h26 p26 => ?_)
   ·refine go 6 ?_
    refine o_val rfl (v_build (pl := [(0, 1), (1, 1)]) he he rfl rfl) ?_
    refine go 1 ?_
    refine o_buildSlice he he rfl rfl rfl rfl rfl rfl rfl (fun v31 => ?_)
    refine go 1 ?_
    refine bring1 ?_
    refine o_appendO he he rfl rfl rfl rfl rfl (by omega) (by omega) rfl (fun v32 => ?_)
    refine go 11 ?_
    obtain ⟨b35, o35, w35, e35, c35, r35⟩ := RdA.at_ hA (i := i) hlt
    obtain rfl := r35
    refine o_v rfl (v_idx he rfl rfl e35 (i) (by omega) hlt) ?_
    refine go 1 ?_
    refine o_v rfl (v_ldI he rfl (c35 0 _ rfl)) ?_
    refine go 4 ?_
    refine cb rfl (fun h39 p39 => ?_) (fun h39 p39 => ?_)
    ·refine go 4 ?_
     obtain ⟨b43, o43, w43, e43, c43, r43⟩ := RdA.at_ hA (i := i) hlt
     obtain rfl := r43
     refine o_v rfl (v_idx he rfl rfl e43 (i) (by omega) hlt) ?_
     refine o_v rfl (v_ldIa he rfl c43 rfl) ?_
     refine go 1 ?_
     refine o_buildSlice he he rfl rfl rfl rfl rfl rfl rfl (fun v45 => ?_)
     refine go 1 ?_
     refine bring1 ?_
     refine o_appendO he he rfl rfl rfl rfl rfl (by omega) (by omega) rfl (fun v46 => ?_)
     refine go 10 ?_
     refine bring1 ?_
     refine sx_drop ?_
     refine bring1 ?_
     refine sx_drop ?_
     exact q_next5 (i + 1) (_) (_) (_) (out ++ [⟨s, t⟩] ++ [l[i]]) ⟨by omega, wF_tt hlt hw h18 h26 h39, (hF.append (.one rfl)).append (.one rfl)⟩ (by omega) rfl sb (by first | rfl | (simp only [List.length_append, List.length_singleton]; rfl) | simp only [List.length_append, List.length_singleton])
    ·refine go 9 ?_
     refine bring1 ?_
     refine sx_drop ?_
     exact q_next5 (i + 1) (_) (_) (_) (out ++ [⟨s, t⟩]) ⟨by omega, wF_tf hlt hw h18 h26 h39, hF.append (.one rfl)⟩ (by omega) rfl sb (by first | rfl | (simp only [List.length_append, List.length_singleton]; rfl) | simp only [List.length_append, List.length_singleton])
   ·refine go 6 ?_
    obtain ⟨b35, o35, w35, e35, c35, r35⟩ := RdA.at_ hA (i := i) hlt
    obtain rfl := r35
    refine o_v rfl (v_idx he rfl rfl e35 (i) (by omega) hlt) ?_
    refine go 1 ?_
    refine o_v rfl (v_ldI he rfl (c35 0 _ rfl)) ?_
    refine go 4 ?_
    refine cb rfl (fun h39 p39 => ?_) (fun h39 p39 => ?_)
    ·refine go 4 ?_
     obtain ⟨b43, o43, w43, e43, c43, r43⟩ := RdA.at_ hA (i := i) hlt
     obtain rfl := r43
     refine o_v rfl (v_idx he rfl rfl e43 (i) (by omega) hlt) ?_
     refine o_v rfl (v_ldIa he rfl c43 rfl) ?_
     refine go 1 ?_
     refine o_buildSlice he he rfl rfl rfl rfl rfl rfl rfl (fun v45 => ?_)
     refine go 1 ?_
     refine bring1 ?_
     refine o_appendO he he rfl rfl rfl rfl rfl (by omega) (by omega) rfl (fun v46 => ?_)
     refine go 10 ?_
     refine bring1 ?_
     refine sx_drop ?_
     exact q_next5 (i + 1) (_) (_) (_) (out ++ [l[i]]) ⟨by omega, wF_ft hlt hw (by rw [h18, h26]; rfl) h39, hF.append (.one rfl)⟩ (by omega) rfl sb (by first | rfl | (simp only [List.length_append, List.length_singleton]; rfl) | simp only [List.length_append, List.length_singleton])
    ·refine go 9 ?_
     exact q_next5 (i + 1) (_) (_) (_) (out) ⟨by omega, wF_ff hlt hw (by rw [h18, h26]; rfl) h39, hF⟩ (by omega) rfl sb (by first | rfl | (simp only [List.length_append, List.length_singleton]; rfl) | simp only [List.length_append, List.length_singleton])
  ·refine go 10 ?_
   refine c_false rfl ?_
   refine go 6 ?_
   obtain ⟨b35, o35, w35, e35, c35, r35⟩ := RdA.at_ hA (i := i) hlt
   obtain rfl := r35
   refine o_v rfl (v_idx he rfl rfl e35 (i) (by omega) hlt) ?_
   refine go 1 ?_
   refine o_v rfl (v_ldI he rfl (c35 0 _ rfl)) ?_
   refine go 4 ?_
   refine cb rfl (fun h39 p39 => ?_) (fun h39 p39 => ?_)
   ·refine go 4 ?_
    obtain ⟨b43, o43, w43, e43, c43, r43⟩ := RdA.at_ hA (i := i) hlt
    obtain rfl := r43
    refine o_v rfl (v_idx he rfl rfl e43 (i) (by omega) hlt) ?_
    refine o_v rfl (v_ldIa he rfl c43 rfl) ?_
    refine go 1 ?_
    refine o_buildSlice he he rfl rfl rfl rfl rfl rfl rfl (fun v45 => ?_)
    refine go 1 ?_
    refine bring1 ?_
    refine o_appendO he he rfl rfl rfl rfl rfl (by omega) (by omega) rfl (fun v46 => ?_)
    refine go 10 ?_
    refine bring1 ?_
    refine sx_drop ?_
    exact q_next5 (i + 1) (_) (_) (_) (out ++ [l[i]]) ⟨by omega, wF_ft hlt hw (by rw [h18]; rfl) h39, hF.append (.one rfl)⟩ (by omega) rfl sb (by first | rfl | (simp only [List.length_append, List.length_singleton]; rfl) | simp only [List.length_append, List.length_singleton])
   ·refine go 9 ?_
    exact q_next5 (i + 1) (_) (_) (_) (out) ⟨by omega, wF_ff hlt hw (by rw [h18]; rfl) h39, hF⟩ (by omega) rfl sb (by first | rfl | (simp only [List.length_append, List.length_singleton]; rfl) | simp only [List.length_append, List.length_singleton])
 ·have e : i = l.length := (by omega)
  subst e
  rw [List.take_length] at hw
  refine go 12 ?_
  refine cb rfl (fun h48 p48 => ?_) (fun h48 p48 => ?_)
  ·refine go 5 ?_
   refine o_val rfl (v_build (pl := [(0, 1), (1, 1)]) he he rfl rfl) ?_
   refine go 1 ?_
   refine o_buildSlice he he rfl rfl rfl rfl rfl rfl rfl (fun v53 => ?_)
   refine go 1 ?_
   refine bring1 ?_
   refine o_appendO he he rfl rfl rfl rfl rfl (by omega) (by omega) rfl (fun v54 => ?_)
   refine go 10 ?_
   refine fin1 rfl rfl ?_
   refine bring1 ?_
   refine sx_drop ?_
   refine sx_pubrow (l := out ++ [(⟨s, t⟩ : Prp)]) rfl (by simp) (hF.append (.one rfl)) (fun I9 j9 R9 => ?_)
   exact q_i (by rw [with_t hw h48]; exact R9)
  ·refine go 9 ?_
   refine fin1 rfl rfl ?_
   refine sx_pubrow (l := out) rfl rfl hF (fun I9 j9 R9 => ?_)
   exact q_i (by rw [with_f hw h48]; exact R9)

theorem ref10held (I : IMap) (v : Value) (l : List Part) (hv : RdS I v l) (s t : ByteArray) :
    FnV Tryz.prog 117 #[.agg #[v], .string s, .string t] I (.bool (heldF l s t)) := by
 obtain ⟨A, c0, rfl, hA, hc, hm⟩ := hv
 refine enter Tryz.func117 Tryz.call117 rfl Tryz.ntmps117 rfl (fun w0 => ?_)
 refine go 3 ?_
 refine o_box _ rfl rfl rfl (fun g3 => ?_)
 refine go 10 ?_
 refine c_loop (α := Nat) 0 (fun i => I)
  (fun i => [(1, .string s), (2, .string t), (3, .pointer (some ⟨g3, 0, none⟩)), (7, .int .i64 ((i : Nat) : Int))])
  (fun i => [.blk g3 69 [.slice A l.length c0]])
  (fun i => i ≤ l.length ∧ ∀ j x, j < i → l[j]? = some x → (fun x : Part => decide (x.into = s) && (decide (t = nil8) || decide (x.slot = t))) x = false)
  (fun i => l.length - i) ⟨Nat.zero_le _, fun j x hj => absurd hj (Nat.not_lt_zero j)⟩ rfl sb rfl ?_
 intro i ⟨hi, hn⟩
 refine go 10 ?_
 refine cb rfl (fun h12 p12 => ?_) (fun h12 p12 => ?_)
 ·have hlt : i < l.length := by omega
  refine go 5 ?_
  refine c_cut (I' := I) (L' := [(1, .string s), (2, .string t), (3, .pointer (some ⟨g3, 0, none⟩)), (7, .int .i64 ((i : Nat) : Int)), (36, .bool (decide (l[i].into = s) && (decide (t = nil8) || decide (l[i].slot = t))))]) (H' := [.blk g3 69 [.slice A l.length c0]]) ?_ ?_
  ·refine go 4 ?_
   obtain ⟨b18, o18, w18, e18, c18, r18⟩ := RdA.at_ hA (i := i) hlt
   obtain ⟨q18, rfl, B18, d18, rfl, hB18, hd18, hm18⟩ := r18
   refine o_v rfl (v_idx he rfl rfl e18 (i) (by omega) hlt) ?_
   refine go 1 ?_
   refine o_v rfl (v_ldI he rfl (c18 2 _ rfl)) ?_
   refine go 3 ?_
   refine sxb 23 rfl (fun h23 p23 => ?_) (fun h23 p23 => ?_)
   ·refine go 3 ?_
    refine sxb 26 rfl (fun h26 p26 => ?_) (fun h26 p26 => ?_)
    ·refine go 12 ?_
     exact q_cut ⟨rfl, rfl, rfl, rfl, (congrArg (fun b => some (Value.bool b)) (by simp only [h12, h23, h26, bS])), trivial⟩ rfl rfl
    ·refine go 3 ?_
     obtain ⟨b30, o30, w30, e30, c30, r30⟩ := RdA.at_ hA (i := i) hlt
     obtain ⟨q30, rfl, B30, d30, rfl, hB30, hd30, hm30⟩ := r30
     refine o_cons (o_yes rfl rfl h26 (o_val rfl (v_idx he rfl rfl e30 (i) (by omega) hlt) ?_))
     refine go 1 ?_
     refine o_cons (o_yes rfl rfl h26 (o_val rfl (v_ldI he rfl (c30 3 _ rfl)) ?_))
     refine go 6 ?_
     exact q_cut ⟨rfl, rfl, rfl, rfl, (congrArg (fun b => some (Value.bool b)) (by simp only [h12, h23, h26, bS])), trivial⟩ rfl rfl
   ·refine go 15 ?_
    exact q_cut ⟨rfl, rfl, rfl, rfl, (congrArg (fun b => some (Value.bool b)) (by simp only [h12, h23, bS])), trivial⟩ rfl rfl
  ·refine cb rfl (fun h36 p36 => ?_) (fun h36 p36 => ?_)
   ·refine go 11 ?_
    refine fin1 rfl rfl ?_
    exact q_v (congrArg Value.bool (List.any_eq_true.2 ⟨l[i], List.getElem_mem hlt, h36⟩).symm)
   ·refine go 9 ?_
    exact q_next (i + 1) ⟨by omega, idx_next (p := (fun x : Part => decide (x.into = s) && (decide (t = nil8) || decide (x.slot = t)))) hn hlt h36⟩ (by omega) rfl sb rfl
 ·refine go 11 ?_
  refine fin1 rfl rfl ?_
  exact q_v (congrArg Value.bool (any_none (fun j x hj => hn j x (by omega))).symm)

theorem ref10heldS (I : IMap) (v : Value) (l : List Part) (hv : RdS I v l) (e : Evt) (h : e.slot ≠ nil8) : FnV Tryz.prog 117 #[.agg #[v], .string e.into, .string e.slot] I (.bool (seatTaken l e)) := by
  have := ref10held I v l hv e.into e.slot
  rwa [held_seat l e h] at this
theorem ref10heldA (I : IMap) (v : Value) (l : List Part) (hv : RdS I v l) (s : ByteArray) : FnV Tryz.prog 117 #[.agg #[v], .string s, .string ⟨#[]⟩] I (.bool (holdsAny l s)) := by
  have := ref10held I v l hv s nil8
  rwa [held_any l s] at this

theorem ref10Step (I : IMap) (vc : Value) (c : List Kind) (hvc : RdS I vc c) (hsc : SmC c) (v : Value) (l : List Part) (hv : RdS I v l) (hsf : SmF l) (e : Evt) (hse : SmE e) (hV : validS c l = true) (hE : validE e = true) :
    FnI Tryz.prog 85 #[.agg #[vc], .agg #[v], .agg e.cells.toArray] I (fun u J => StIs J (applyF c l e) u) := by
 have hA0 : (!validS c l || !validE e) = false := by rw [hV, hE]; rfl
 obtain ⟨hsrt, hlen⟩ := validS_ord hV
 have hl6 : l.length ≤ 1000000 := by omega
 have hv0 := hv
 obtain ⟨A, c0, rfl, hA, hc, hm⟩ := hv
 refine enter Tryz.func85 Tryz.call85 rfl Tryz.ntmps85 rfl (fun w0 => ?_)
 refine go 3 ?_
 refine o_box _ rfl rfl rfl (fun g3 => ?_)
 refine go 1 ?_
 refine o_box _ rfl rfl rfl (fun g4 => ?_)
 refine go 1 ?_
 refine o_box _ rfl rfl rfl (fun g5 => ?_)
 refine go 1 ?_
 refine o_alloc he rfl (fun g6 => ?_)
 refine go 9 ?_
 refine o_callV (ref10At _ _ l hv0 e.part) rfl rfl ?_
 refine go 11 ?_
 refine cb rfl (fun h22 p22 => ?_) (fun h22 p22 => ?_)
 ·refine go 6 ?_
  refine o_callE (refFind _ vc c hvc e.kind) rfl rfl (fun v27 q27 => ?_)
  obtain ⟨vs13, rfl, s13, rfl, hs13⟩ := q27
  refine go 4 ?_
  refine o_alloc he rfl (fun g9 => ?_)
  refine go 1 ?_
  refine o_stw _ he rfl rfl rfl rfl rfl (Enc.one (α := Kind) (I := I) (x := (findK c e.kind).getD zKind) ⟨s13, rfl, hs13⟩) ?_
  refine go 10 ?_
  refine cb rfl (fun h31 p31 => ?_) (fun h31 p31 => ?_)
  ·have hS1 : (findP l e.part).isSome = true := (by rw [← find_idx]; exact h31)
   refine go 3 ?_
   refine o_val rfl (v_build (pl := [(0, 1)]) he he rfl rfl) ?_
   refine go 1 ?_
   refine bring1 ?_
   refine o_stw _ he rfl rfl rfl rfl rfl rfl ?_
   refine go 6 ?_
   refine fin2 rfl ⟨_, _, _, rfl, m0, .inr ⟨_, he, rfl, rfl⟩⟩ rfl ?_
   exact q_i (StIs.fail (by simp only [applyF, hA0, p22, applyMake, hS1, Bool.true_eq_false, decide_true, decide_false, Int.reduceEq, reduceIte, if_true, if_false, Bool.false_eq_true, not_true, not_false_eq_true, bS]))
  ·have hS1 : (findP l e.part).isSome = false := (by rw [← find_idx]; exact h31)
   refine go 9 ?_
   refine cb rfl (fun h34 p34 => ?_) (fun h34 p34 => ?_)
   ·refine go 3 ?_
    refine o_val rfl (v_build (pl := [(0, 1)]) he he rfl rfl) ?_
    refine go 1 ?_
    refine bring1 ?_
    refine o_stw _ he rfl rfl rfl rfl rfl rfl ?_
    refine go 6 ?_
    refine fin2 rfl ⟨_, _, _, rfl, m0, .inr ⟨_, he, rfl, rfl⟩⟩ rfl ?_
    exact q_i (StIs.fail (by simp only [applyF, hA0, p22, applyMake, hS1, p34, Bool.true_eq_false, decide_true, decide_false, Int.reduceEq, reduceIte, if_true, if_false, Bool.false_eq_true, not_true, not_false_eq_true, bS]))
   ·refine go 11 ?_
    refine cb rfl (fun h39 p39 => ?_) (fun h39 p39 => ?_)
    ·have hL : ((l.length : Nat) : Int) = 20000 := by omega
     refine go 3 ?_
     refine o_val rfl (v_build (pl := [(0, 1)]) he he rfl rfl) ?_
     refine go 1 ?_
     refine bring1 ?_
     refine o_stw _ he rfl rfl rfl rfl rfl rfl ?_
     refine go 6 ?_
     refine fin2 rfl ⟨_, _, _, rfl, m0, .inr ⟨_, he, rfl, rfl⟩⟩ rfl ?_
     exact q_i (StIs.fail (by simp only [applyF, hA0, p22, applyMake, hS1, p34, hL, Bool.true_eq_false, decide_true, decide_false, Int.reduceEq, reduceIte, if_true, if_false, Bool.false_eq_true, not_true, not_false_eq_true, bS]))
    ·have hL : ¬ ((l.length : Nat) : Int) = 20000 := by omega
     refine go 14 ?_
     refine o_val rfl (v_build (pl := [(0, 1), (1, 1), (2, 1), (3, 1), (4, 1), (5, 1), (6, 1), (7, 1), (8, 6)]) he he rfl rfl) ?_
     refine go 1 ?_
     refine o_call (ref10with _ _ l hv0 hl6 (newP e) none 0 ⟨_, rfl, RdS.nil'⟩) rfl rfl (fun v51 I51 j51 q51 => ?_)
     obtain ⟨w51, rfl, hw51⟩ := q51
     refine go 1 ?_
     refine bring1 ?_
     refine o_stw _ he rfl rfl rfl rfl rfl (by simp [hw51.one]) ?_
     refine go 5 ?_
     refine fin2 rfl ⟨_, _, _, rfl, m0, .inr ⟨_, he, rfl, rfl⟩⟩ rfl ?_
     rw [with_put (inc_of hsrt)] at hw51
     exact q_i (StIs.put (by simp only [applyF, hA0, p22, applyMake, hS1, p34, hL, Bool.true_eq_false, decide_true, decide_false, Int.reduceEq, reduceIte, if_true, if_false, Bool.false_eq_true, not_true, not_false_eq_true, bS]) hw51)
 ·refine go 9 ?_
  refine c_cut (I' := I) (L' := [(3, .pointer (some ⟨g3, 0, none⟩)), (4, .pointer (some ⟨g4, 0, none⟩)), (5, .pointer (some ⟨g5, 0, none⟩)), (6, .pointer (some ⟨g6, 0, none⟩)), (8, .int .i64 (idxF (fun p : Part => decide (p.name = e.part)) l)), (11, .int .i64 (idxF (fun p : Part => decide (p.name = (otherN e))) l))]) (H' := [.blk g6 69 [.slice none 0 0], .blk g5 53 e.cells, .blk g4 69 [.slice A l.length c0], .blk g3 24 [vc]]) ?_ ?_
  ·refine go 7 ?_
   refine cb rfl (fun h55 p55 => ?_) (fun h55 p55 => ?_)
   ·refine go 5 ?_
    refine o_callV (ref10At _ _ l hv0 e.into) rfl rfl ?_
    refine go 3 ?_
    exact q_cut ⟨rfl, rfl, rfl, rfl, rfl, (congrArg (fun s => some (Value.int .i64 (idxF (fun p : Part => decide (p.name = s)) l))) (by first | exact (if_pos p55).symm | exact (if_neg p55).symm)), trivial⟩ rfl rfl
   ·refine go 2 ?_
    exact q_cut ⟨rfl, rfl, rfl, rfl, rfl, (congrArg (fun s => some (Value.int .i64 (idxF (fun p : Part => decide (p.name = s)) l))) (by first | exact (if_pos p55).symm | exact (if_neg p55).symm)), trivial⟩ rfl rfl
  ·refine go 6 ?_
   refine sxb 62 rfl (fun h62 p62 => ?_) (fun h62 p62 => ?_)
   ·have hS1 : (findP l e.part).isSome = false := (by rw [← find_idx]; simpa using p62)
    refine go 5 ?_
    refine c_true rfl ?_
    refine go 3 ?_
    refine o_val rfl (v_build (pl := [(0, 1)]) he he rfl rfl) ?_
    refine go 1 ?_
    refine o_stw _ he rfl rfl rfl rfl rfl rfl ?_
    refine go 5 ?_
    refine fin2 rfl ⟨_, _, _, rfl, m0, .inr ⟨_, he, rfl, rfl⟩⟩ rfl ?_
    exact q_i (StIs.fail (by simp only [applyF, hA0, p22, applyRest, hS1, Bool.true_eq_false, decide_true, decide_false, Int.reduceEq, reduceIte, if_true, if_false, Bool.false_eq_true, not_true, not_false_eq_true, bS]))
   ·have hS1 : (findP l e.part).isSome = true := (by rw [← find_idx]; simpa using p62)
    refine go 5 ?_
    refine cb rfl (fun h65 p65 => ?_) (fun h65 p65 => ?_)
    ·have hO : (otherO l e).isSome = false := (by rw [otherO_eq, ← find_idx]; simpa using p65)
     refine go 3 ?_
     refine o_val rfl (v_build (pl := [(0, 1)]) he he rfl rfl) ?_
     refine go 1 ?_
     refine o_stw _ he rfl rfl rfl rfl rfl rfl ?_
     refine go 5 ?_
     refine fin2 rfl ⟨_, _, _, rfl, m0, .inr ⟨_, he, rfl, rfl⟩⟩ rfl ?_
     exact q_i (StIs.fail (by simp only [applyF, hA0, p22, applyRest, hS1, hO, Bool.true_eq_false, decide_true, decide_false, Int.reduceEq, reduceIte, if_true, if_false, Bool.false_eq_true, not_true, not_false_eq_true, bS]))
    ·have hO : (otherO l e).isSome = true := (by rw [otherO_eq, ← find_idx]; simpa using p65)
     refine go 7 ?_
     obtain ⟨i1, hi1, ei1, hF1⟩ := (idxF_find (fun p : Part => decide (p.name = e.part)) l).resolve_left (fun h => by omega)
     have hP : partP l e = l[i1] := by rw [partP, show findP l e.part = _ from hF1]; rfl
     have hmem : partP l e ∈ l := by rw [hP]; exact List.getElem_mem hi1
     obtain ⟨b70, o70, w70, e70, c70, r70⟩ := RdA.at_ hA (i := i1) hi1
     rw [← hP] at r70
     obtain ⟨s12, rfl, hs12⟩ := r70
     refine o_v rfl (v_idx he rfl rfl e70 (i1) ei1 hi1) ?_
     refine o_v rfl (v_ldIa he rfl c70 rfl) ?_
     refine go 1 ?_
     refine o_alloc he rfl (fun g12 => ?_)
     refine go 1 ?_
     refine o_stw _ he rfl rfl rfl rfl rfl (Enc.one (α := Part) (I := I) (x := partP l e) ⟨s12, rfl, hs12⟩) ?_
     refine go 7 ?_
     obtain ⟨i2, hi2, ei2, hF2⟩ := (idxF_find (fun p : Part => decide (p.name = otherN e)) l).resolve_left (fun h => by omega)
     have hQ : otherP l e = l[i2] := by rw [otherP, otherO_eq, show findP l (otherN e) = _ from hF2]; rfl
     obtain ⟨b75, o75, w75, e75, c75, r75⟩ := RdA.at_ hA (i := i2) hi2
     rw [← hQ] at r75
     obtain ⟨s13, rfl, hs13⟩ := r75
     refine o_v rfl (v_idx he rfl rfl e75 (i2) ei2 hi2) ?_
     refine o_v rfl (v_ldIa he rfl c75 rfl) ?_
     refine go 1 ?_
     refine o_alloc he rfl (fun g13 => ?_)
     refine go 1 ?_
     refine o_stw _ he rfl rfl rfl rfl rfl (Enc.one (α := Part) (I := I) (x := otherP l e) ⟨s13, rfl, hs13⟩) ?_
     refine go 8 ?_
     refine sxb 79 rfl (fun h79 p79 => ?_) (fun h79 p79 => ?_)
     ·refine go 5 ?_
      refine c_true rfl ?_
      refine go 3 ?_
      refine o_val rfl (v_build (pl := [(0, 1)]) he he rfl rfl) ?_
      refine go 1 ?_
      refine bring2 ?_
      refine o_stw _ he rfl rfl rfl rfl rfl rfl ?_
      refine go 5 ?_
      refine fin2 rfl ⟨_, _, _, rfl, m0, .inr ⟨_, he, rfl, rfl⟩⟩ rfl ?_
      exact q_i (StIs.fail (by simp only [applyF, hA0, p22, applyRest, hS1, hO, h62, h65, h79, Bool.true_eq_false, decide_true, decide_false, Int.reduceEq, reduceIte, if_true, if_false, Bool.false_eq_true, not_true, not_false_eq_true, bS]))
     ·refine go 5 ?_
      refine cb rfl (fun h82 p82 => ?_) (fun h82 p82 => ?_)
      ·refine go 3 ?_
       refine o_val rfl (v_build (pl := [(0, 1)]) he he rfl rfl) ?_
       refine go 1 ?_
       refine bring2 ?_
       refine o_stw _ he rfl rfl rfl rfl rfl rfl ?_
       refine go 5 ?_
       refine fin2 rfl ⟨_, _, _, rfl, m0, .inr ⟨_, he, rfl, rfl⟩⟩ rfl ?_
       exact q_i (StIs.fail (by simp only [applyF, hA0, p22, applyRest, hS1, hO, h62, h65, h79, h82, Bool.true_eq_false, decide_true, decide_false, Int.reduceEq, reduceIte, if_true, if_false, Bool.false_eq_true, not_true, not_false_eq_true, bS]))
      ·refine go 8 ?_
       refine o_callE (refFind _ vc c hvc (partP l e).kind) rfl rfl (fun v88 q88 => ?_)
       obtain ⟨vs14, rfl, s14, rfl, hs14⟩ := q88
       refine go 4 ?_
       refine o_alloc he rfl (fun g14 => ?_)
       refine go 1 ?_
       refine o_stw _ he rfl rfl rfl rfl rfl (Enc.one (α := Kind) (I := I) (x := kindP c l e) ⟨s14, rfl, hs14⟩) ?_
       refine go 4 ?_
       refine c_cutx3 (Ix := (fun J p2 s2 => J)) (Lx := (fun J p2 s2 => [(4, .pointer (some ⟨g4, 0, none⟩)), (6, .pointer (some ⟨g6, 0, none⟩)), (12, .pointer (some ⟨g12, 0, none⟩))])) (Hx := (fun J p2 s2 => [.blk g12 124 (p2.cells s2), .blk g6 69 [.slice none 0 0], .blk g4 69 [.slice A l.length c0]])) (p := (fun J p2 s2 => ILe I J ∧ RdS J s2 p2.props ∧ applyF c l e = putR l p2)) ?_ ?_
       ·refine go 13 ?_
        refine cb rfl (fun h93 p93 => ?_) (fun h93 p93 => ?_)
        ·have hsl := fit_slot hE p93
         refine go 6 ?_
         refine sxb 97 rfl (fun h97 p97 => ?_) (fun h97 p97 => ?_)
         ·refine go 12 ?_
          refine c_true rfl ?_
          refine go 3 ?_
          refine o_val rfl (v_build (pl := [(0, 1)]) he he rfl rfl) ?_
          refine go 1 ?_
          refine bring3 ?_
          refine o_stw _ he rfl rfl rfl rfl rfl rfl ?_
          refine go 7 ?_
          refine fin2 rfl ⟨_, _, _, rfl, m0, .inr ⟨_, he, rfl, rfl⟩⟩ rfl ?_
          exact q_i (StIs.fail (by simp only [applyF, hA0, p22, applyRest, hS1, hO, h82, applyOp, applyFit, applyRemove, applyRun, applyNote, applyScrap, kindP, noted, p22, p62, p65, p79, p82, p93, p97, h62, h65, h79, h82, h93, h97, Bool.true_eq_false, decide_true, decide_false, Int.reduceEq, reduceIte, if_true, if_false, Bool.false_eq_true, not_true, not_false_eq_true, bS]))
         ·refine go 8 ?_
          refine o_yes rfl rfl h97 (o_callV (ref08Takes _ vc c hvc (otherP l e).kind e.slot (partP l e).kind) rfl rfl ?_)
          refine go 4 ?_
          refine cb rfl (fun h107 p107 => ?_) (fun h107 p107 => ?_)
          ·refine go 3 ?_
           refine o_val rfl (v_build (pl := [(0, 1)]) he he rfl rfl) ?_
           refine go 1 ?_
           refine bring3 ?_
           refine o_stw _ he rfl rfl rfl rfl rfl rfl ?_
           refine go 7 ?_
           refine fin2 rfl ⟨_, _, _, rfl, m0, .inr ⟨_, he, rfl, rfl⟩⟩ rfl ?_
           exact q_i (StIs.fail (by simp only [applyF, hA0, p22, applyRest, hS1, hO, h82, applyOp, applyFit, applyRemove, applyRun, applyNote, applyScrap, kindP, noted, p22, p62, p65, p79, p82, p93, p97, p107, h62, h65, h79, h82, h93, h97, h107, Bool.true_eq_false, decide_true, decide_false, Int.reduceEq, reduceIte, if_true, if_false, Bool.false_eq_true, not_true, not_false_eq_true, bS]))
          ·refine go 10 ?_
           refine cb rfl (fun h111 p111 => ?_) (fun h111 p111 => ?_)
           ·refine go 3 ?_
            refine o_val rfl (v_build (pl := [(0, 1)]) he he rfl rfl) ?_
            refine go 1 ?_
            refine bring3 ?_
            refine o_stw _ he rfl rfl rfl rfl rfl rfl ?_
            refine go 7 ?_
            refine fin2 rfl ⟨_, _, _, rfl, m0, .inr ⟨_, he, rfl, rfl⟩⟩ rfl ?_
            exact q_i (StIs.fail (by simp only [applyF, hA0, p22, applyRest, hS1, hO, h82, applyOp, applyFit, applyRemove, applyRun, applyNote, applyScrap, kindP, noted, p22, p62, p65, p79, p82, p93, p97, p107, p111, h62, h65, h79, h82, h93, h97, h107, h111, Bool.true_eq_false, decide_true, decide_false, Int.reduceEq, reduceIte, if_true, if_false, Bool.false_eq_true, not_true, not_false_eq_true, bS]))
           ·refine go 11 ?_
            refine o_callV (ref10heldS _ _ l hv0 e hsl) rfl rfl ?_
            refine go 2 ?_
            refine cb rfl (fun h118 p118 => ?_) (fun h118 p118 => ?_)
            ·refine go 3 ?_
             refine o_val rfl (v_build (pl := [(0, 1)]) he he rfl rfl) ?_
             refine go 1 ?_
             refine bring3 ?_
             refine o_stw _ he rfl rfl rfl rfl rfl rfl ?_
             refine go 7 ?_
             refine fin2 rfl ⟨_, _, _, rfl, m0, .inr ⟨_, he, rfl, rfl⟩⟩ rfl ?_
             exact q_i (StIs.fail (by simp only [applyF, hA0, p22, applyRest, hS1, hO, h82, applyOp, applyFit, applyRemove, applyRun, applyNote, applyScrap, kindP, noted, p22, p62, p65, p79, p82, p93, p97, p107, p111, p118, h62, h65, h79, h82, h93, h97, h107, h111, h118, Bool.true_eq_false, decide_true, decide_false, Int.reduceEq, reduceIte, if_true, if_false, Bool.false_eq_true, not_true, not_false_eq_true, bS]))
            ·refine go 8 ?_
             refine bring2 ?_
             refine o_st1 he rfl rfl rfl rfl ?_
             refine go 7 ?_
             refine o_st1 he rfl rfl rfl rfl ?_
             refine go 3 ?_
             refine bring1 ?_
             refine sx_drop ?_
             refine bring1 ?_
             refine sx_drop ?_
             refine bring2 ?_
             refine sx_drop ?_
             refine bring3 ?_
             refine sx_drop ?_
             exact q_cutx3 (_) ({ partP l e with into := e.into, slot := e.slot }) (_) ⟨ILe.refl _, hs12, by simp only [applyF, hA0, p22, applyRest, hS1, hO, h82, applyOp, applyFit, applyRemove, applyRun, applyNote, applyScrap, kindP, noted, overhauled, p22, p62, p65, p79, p82, p93, p97, p107, p111, p118, h62, h65, h79, h82, h93, h97, h107, h111, h118, Bool.true_eq_false, decide_true, decide_false, Int.reduceEq, reduceIte, if_true, if_false, Bool.false_eq_true, not_true, not_false_eq_true, bS]⟩ sb rfl rfl
        ·refine go 6 ?_
         refine cb rfl (fun h126 p126 => ?_) (fun h126 p126 => ?_)
         ·refine go 8 ?_
          refine cb rfl (fun h130 p130 => ?_) (fun h130 p130 => ?_)
          ·refine go 3 ?_
           refine o_val rfl (v_build (pl := [(0, 1)]) he he rfl rfl) ?_
           refine go 1 ?_
           refine bring3 ?_
           refine o_stw _ he rfl rfl rfl rfl rfl rfl ?_
           refine go 7 ?_
           refine fin2 rfl ⟨_, _, _, rfl, m0, .inr ⟨_, he, rfl, rfl⟩⟩ rfl ?_
           exact q_i (StIs.fail (by simp only [applyF, hA0, p22, applyRest, hS1, hO, h82, applyOp, applyFit, applyRemove, applyRun, applyNote, applyScrap, kindP, noted, p22, p62, p65, p79, p82, p93, p126, p130, h62, h65, h79, h82, h93, h126, h130, Bool.true_eq_false, decide_true, decide_false, Int.reduceEq, reduceIte, if_true, if_false, Bool.false_eq_true, not_true, not_false_eq_true, bS]))
          ·refine go 6 ?_
           refine bring2 ?_
           refine o_st1 he rfl rfl rfl rfl ?_
           refine go 5 ?_
           refine o_st1 he rfl rfl rfl rfl ?_
           refine go 3 ?_
           refine bring1 ?_
           refine sx_drop ?_
           refine bring1 ?_
           refine sx_drop ?_
           refine bring2 ?_
           refine sx_drop ?_
           refine bring3 ?_
           refine sx_drop ?_
           exact q_cutx3 (_) ({ partP l e with into := nil8, slot := nil8 }) (_) ⟨ILe.refl _, hs12, by simp only [applyF, hA0, p22, applyRest, hS1, hO, h82, applyOp, applyFit, applyRemove, applyRun, applyNote, applyScrap, kindP, noted, overhauled, p22, p62, p65, p79, p82, p93, p126, p130, h62, h65, h79, h82, h93, h126, h130, Bool.true_eq_false, decide_true, decide_false, Int.reduceEq, reduceIte, if_true, if_false, Bool.false_eq_true, not_true, not_false_eq_true, bS]⟩ sb rfl rfl
         ·refine go 6 ?_
          refine cb rfl (fun h134 p134 => ?_) (fun h134 p134 => ?_)
          ·refine go 7 ?_
           refine cb rfl (fun h138 p138 => ?_) (fun h138 p138 => ?_)
           ·refine go 3 ?_
            refine o_val rfl (v_build (pl := [(0, 1)]) he he rfl rfl) ?_
            refine go 1 ?_
            refine bring3 ?_
            refine o_stw _ he rfl rfl rfl rfl rfl rfl ?_
            refine go 6 ?_
            refine fin2 rfl ⟨_, _, _, rfl, m0, .inr ⟨_, he, rfl, rfl⟩⟩ rfl ?_
            exact q_i (StIs.fail (by simp only [applyF, hA0, p22, applyRest, hS1, hO, h82, applyOp, applyFit, applyRemove, applyRun, applyNote, applyScrap, kindP, noted, p22, p62, p65, p79, p82, p93, p126, p134, p138, h62, h65, h79, h82, h93, h126, h134, h138, Bool.true_eq_false, decide_true, decide_false, Int.reduceEq, reduceIte, if_true, if_false, Bool.false_eq_true, not_true, not_false_eq_true, bS]))
           ·refine go 3 ?_
            refine sx_drop ?_
            refine sx_drop ?_
            refine bring2 ?_
            refine sx_drop ?_
            refine bring3 ?_
            refine sx_drop ?_
            exact q_cutx3 (_) (partP l e) (_) ⟨ILe.refl _, hs12, by simp only [applyF, hA0, p22, applyRest, hS1, hO, h82, applyOp, applyFit, applyRemove, applyRun, applyNote, applyScrap, kindP, noted, overhauled, p22, p62, p65, p79, p82, p93, p126, p134, p138, h62, h65, h79, h82, h93, h126, h134, h138, Bool.true_eq_false, decide_true, decide_false, Int.reduceEq, reduceIte, if_true, if_false, Bool.false_eq_true, not_true, not_false_eq_true, bS]⟩ sb rfl rfl
          ·refine go 6 ?_
           refine cb rfl (fun h140 p140 => ?_) (fun h140 p140 => ?_)
           ·refine go 6 ?_
            refine o_v rfl (v_imax rfl rfl) ?_
            refine go 2 ?_
            refine bring2 ?_
            refine o_st1 he rfl rfl rfl rfl ?_
            refine go 4 ?_
            refine o_val rfl (v_build (pl := [(0, 2), (2, 2), (4, 2)]) he he rfl rfl) ?_
            refine go 2 ?_
            refine o_st _ _ he rfl rfl rfl rfl rfl rfl rfl ?_
            refine go 3 ?_
            refine bring1 ?_
            refine sx_drop ?_
            refine bring1 ?_
            refine sx_drop ?_
            refine bring2 ?_
            refine sx_drop ?_
            refine bring3 ?_
            refine sx_drop ?_
            exact q_cutx3 (_) (overhauled e (partP l e)) (_) ⟨ILe.refl _, hs12, by simp only [applyF, hA0, p22, applyRest, hS1, hO, h82, applyOp, applyFit, applyRemove, applyRun, applyNote, applyScrap, kindP, noted, overhauled, p22, p62, p65, p79, p82, p93, p126, p134, p140, h62, h65, h79, h82, h93, h126, h134, h140, Bool.true_eq_false, decide_true, decide_false, Int.reduceEq, reduceIte, if_true, if_false, Bool.false_eq_true, not_true, not_false_eq_true, bS]⟩ sb rfl rfl
           ·refine go 6 ?_
            refine cb rfl (fun h150 p150 => ?_) (fun h150 p150 => ?_)
            ·refine go 9 ?_
             refine o_call (ref10Note _ s12 (partP l e).props hs12 (by have := (validS_part hV hmem).2; omega) e.key e.value) rfl rfl (fun v158 I158 j158 q158 => ?_)
             have R158 : RdS I158 v158 (putL Prp.key (partP l e).props ⟨e.key, e.value⟩) := with_put (nm := Prp.key) (x := ⟨e.key, e.value⟩) (inc_of (validS_part hV hmem).1) ▸ q158
             obtain ⟨B158, d158, rfl, h158⟩ := R158
             refine go 2 ?_
             refine bring2 ?_
             refine o_st1 he rfl rfl rfl rfl ?_
             refine go 10 ?_
             refine cb rfl (fun h163 p163 => ?_) (fun h163 p163 => ?_)
             ·refine go 3 ?_
              refine o_val rfl (v_build (pl := [(0, 1)]) he he rfl rfl) ?_
              refine go 1 ?_
              refine bring3 ?_
              refine o_stw _ he rfl rfl rfl rfl rfl rfl ?_
              refine go 6 ?_
              refine fin2 rfl ⟨_, _, _, rfl, m0, .inr ⟨_, he, rfl, rfl⟩⟩ rfl ?_
              exact q_i (StIs.fail (by simp only [applyF, hA0, p22, applyRest, hS1, hO, h82, applyOp, applyFit, applyRemove, applyRun, applyNote, applyScrap, kindP, noted, p22, p62, p65, p79, p82, p93, p126, p134, p140, p150, p163, h62, h65, h79, h82, h93, h126, h134, h140, h150, h163, Bool.true_eq_false, decide_true, decide_false, Int.reduceEq, reduceIte, if_true, if_false, Bool.false_eq_true, not_true, not_false_eq_true, bS]))
             ·refine go 3 ?_
              refine bring1 ?_
              refine sx_drop ?_
              refine bring1 ?_
              refine sx_drop ?_
              refine bring2 ?_
              refine sx_drop ?_
              refine bring3 ?_
              refine sx_drop ?_
              exact q_cutx3 (_) (noted e (partP l e)) (_) ⟨j158, ⟨B158, d158, rfl, h158⟩, by simp only [applyF, hA0, p22, applyRest, hS1, hO, h82, applyOp, applyFit, applyRemove, applyRun, applyNote, applyScrap, kindP, noted, overhauled, p22, p62, p65, p79, p82, p93, p126, p134, p140, p150, p163, h62, h65, h79, h82, h93, h126, h134, h140, h150, h163, Bool.true_eq_false, decide_true, decide_false, Int.reduceEq, reduceIte, if_true, if_false, Bool.false_eq_true, not_true, not_false_eq_true, bS]⟩ sb rfl rfl
            ·refine go 6 ?_
             refine cb rfl (fun h165 p165 => ?_) (fun h165 p165 => ?_)
             ·refine go 7 ?_
              refine sxb 170 rfl (fun h170 p170 => ?_) (fun h170 p170 => ?_)
              ·refine go 7 ?_
               refine c_true rfl ?_
               refine go 3 ?_
               refine o_val rfl (v_build (pl := [(0, 1)]) he he rfl rfl) ?_
               refine go 1 ?_
               refine bring3 ?_
               refine o_stw _ he rfl rfl rfl rfl rfl rfl ?_
               refine go 7 ?_
               refine fin2 rfl ⟨_, _, _, rfl, m0, .inr ⟨_, he, rfl, rfl⟩⟩ rfl ?_
               exact q_i (StIs.fail (by simp only [applyF, hA0, p22, applyRest, hS1, hO, h82, applyOp, applyFit, applyRemove, applyRun, applyNote, applyScrap, kindP, noted, p22, p62, p65, p79, p82, p93, p126, p134, p140, p150, p165, p170, h62, h65, h79, h82, h93, h126, h134, h140, h150, h165, h170, Bool.true_eq_false, decide_true, decide_false, Int.reduceEq, reduceIte, if_true, if_false, Bool.false_eq_true, not_true, not_false_eq_true, bS]))
              ·refine go 4 ?_
               refine o_yes rfl rfl h170 (o_callV (ref10heldA _ _ l hv0 (partP l e).name) rfl rfl ?_)
               refine go 3 ?_
               refine cb rfl (fun h175 p175 => ?_) (fun h175 p175 => ?_)
               ·refine go 3 ?_
                refine o_val rfl (v_build (pl := [(0, 1)]) he he rfl rfl) ?_
                refine go 1 ?_
                refine bring3 ?_
                refine o_stw _ he rfl rfl rfl rfl rfl rfl ?_
                refine go 7 ?_
                refine fin2 rfl ⟨_, _, _, rfl, m0, .inr ⟨_, he, rfl, rfl⟩⟩ rfl ?_
                exact q_i (StIs.fail (by simp only [applyF, hA0, p22, applyRest, hS1, hO, h82, applyOp, applyFit, applyRemove, applyRun, applyNote, applyScrap, kindP, noted, p22, p62, p65, p79, p82, p93, p126, p134, p140, p150, p165, p170, p175, h62, h65, h79, h82, h93, h126, h134, h140, h150, h165, h170, h175, Bool.true_eq_false, decide_true, decide_false, Int.reduceEq, reduceIte, if_true, if_false, Bool.false_eq_true, not_true, not_false_eq_true, bS]))
               ·refine go 5 ?_
                refine bring2 ?_
                refine o_st1 he rfl rfl rfl rfl ?_
                refine go 3 ?_
                refine bring1 ?_
                refine sx_drop ?_
                refine bring1 ?_
                refine sx_drop ?_
                refine bring2 ?_
                refine sx_drop ?_
                refine bring3 ?_
                refine sx_drop ?_
                exact q_cutx3 (_) ({ partP l e with scrapped := true }) (_) ⟨ILe.refl _, hs12, by simp only [applyF, hA0, p22, applyRest, hS1, hO, h82, applyOp, applyFit, applyRemove, applyRun, applyNote, applyScrap, kindP, noted, overhauled, p22, p62, p65, p79, p82, p93, p126, p134, p140, p150, p165, p170, p175, h62, h65, h79, h82, h93, h126, h134, h140, h150, h165, h170, h175, Bool.true_eq_false, decide_true, decide_false, Int.reduceEq, reduceIte, if_true, if_false, Bool.false_eq_true, not_true, not_false_eq_true, bS]⟩ sb rfl rfl
             ·refine go 3 ?_
              refine sx_drop ?_
              refine sx_drop ?_
              refine bring2 ?_
              refine sx_drop ?_
              refine bring3 ?_
              refine sx_drop ?_
              exact q_cutx3 (_) (partP l e) (_) ⟨ILe.refl _, hs12, by simp only [applyF, hA0, p22, applyRest, hS1, hO, h82, applyOp, applyFit, applyRemove, applyRun, applyNote, applyScrap, kindP, noted, overhauled, p22, p62, p65, p79, p82, p93, p126, p134, p140, p150, p165, h62, h65, h79, h82, h93, h126, h134, h140, h150, h165, Bool.true_eq_false, decide_true, decide_false, Int.reduceEq, reduceIte, if_true, if_false, Bool.false_eq_true, not_true, not_false_eq_true, bS]⟩ sb rfl rfl
       ·rintro J p2 s2 ⟨hJ, ⟨B2, d2, rfl, hB2⟩, hA2⟩
        refine go 5 ?_
        refine o_call (ref10with _ _ l (hv0.le hJ) hl6 p2 B2 d2 ⟨_, rfl, B2, d2, rfl, hB2⟩) rfl rfl (fun v180 I180 j180 q180 => ?_)
        obtain ⟨w180, rfl, hw180⟩ := q180
        refine go 1 ?_
        refine bring1 ?_
        refine o_stw _ he rfl rfl rfl rfl rfl (by simp [hw180.one]) ?_
        refine go 4 ?_
        refine fin2 rfl ⟨_, _, _, rfl, m0, .inr ⟨_, he, rfl, rfl⟩⟩ rfl ?_
        rw [with_put (inc_of hsrt)] at hw180
        exact q_i (StIs.put hA2 hw180)

theorem ref10Apply (I : IMap) (vc : Value) (c : List Kind) (hvc : RdS I vc c) (hsc : SmC c) (v : Value) (l : List Part) (hv : RdS I v l) (hsf : SmF l) (e : Evt) (hse : SmE e) :
    FnI Tryz.prog 52 #[.agg #[vc], .agg #[v], .agg e.cells.toArray] I (fun u J => StIs J (applyF c l e) u) := by
 refine enter Tryz.func52 Tryz.call52 rfl Tryz.ntmps52 rfl (fun w0 => ?_)
 refine go 3 ?_
 refine o_box _ rfl rfl rfl (fun g3 => ?_)
 refine go 1 ?_
 refine o_box _ rfl rfl rfl (fun g4 => ?_)
 refine go 1 ?_
 refine o_box _ rfl rfl rfl (fun g5 => ?_)
 refine go 1 ?_
 refine o_alloc he rfl (fun g6 => ?_)
 refine go 5 ?_
 refine c_cut (I' := I) (L' := [(3, .pointer (some ⟨g3, 0, none⟩)), (4, .pointer (some ⟨g4, 0, none⟩)), (5, .pointer (some ⟨g5, 0, none⟩)), (6, .pointer (some ⟨g6, 0, none⟩)), (16, .bool (!validS c l || !validE e))]) (H' := [.blk g6 69 [.slice none 0 0], .blk g5 53 e.cells, .blk g4 69 [v], .blk g3 24 [vc]]) ?_ ?_
 ·refine go 4 ?_
  refine o_callV (ref10Valid _ vc c hvc hsc _ l hv hsf) rfl rfl ?_
  refine go 2 ?_
  refine sxb 12 rfl (fun h12 p12 => ?_) (fun h12 p12 => ?_)
  ·refine go 6 ?_
   exact q_cut ⟨rfl, rfl, rfl, rfl, (congrArg (fun b => some (Value.bool b)) (by simp only [h12, bS])), trivial⟩ rfl rfl
  ·refine go 2 ?_
   refine o_yes rfl rfl h12 (o_callV (ref09Valid _ e hse) rfl rfl ?_)
   refine go 4 ?_
   exact q_cut ⟨rfl, rfl, rfl, rfl, (congrArg (fun b => some (Value.bool b)) (by simp only [h12, bS])), trivial⟩ rfl rfl
 ·refine cb rfl (fun h16 p16 => ?_) (fun h16 p16 => ?_)
  ·refine go 3 ?_
   refine o_val rfl (v_build (pl := [(0, 1)]) he he rfl rfl) ?_
   refine go 1 ?_
   refine o_stw _ he rfl rfl rfl rfl rfl rfl ?_
   refine go 5 ?_
   refine fin2 rfl ⟨_, _, _, rfl, m0, .inr ⟨_, he, rfl, rfl⟩⟩ rfl ?_
   exact q_i (StIs.fail (by simp only [applyF, h16, if_true]))
  ·have hVE : validS c l = true ∧ validE e = true := by revert h16; simp
   refine go 8 ?_
   refine o_call (ref10Step _ vc c hvc hsc _ l hv hsf e hse hVE.1 hVE.2) rfl rfl (fun v21 I21 j21 q21 => ?_)
   obtain ⟨w21, rfl, hw21⟩ := q21
   refine go 3 ?_
   refine o_stw _ he rfl rfl rfl rfl rfl (by simp [hw21.one]) ?_
   refine go 4 ?_
   refine fin2 rfl ⟨_, _, _, rfl, m0, .inr ⟨_, he, rfl, rfl⟩⟩ rfl ?_
   exact q_i ⟨w21, rfl, hw21⟩

theorem ref11Sort (I : IMap) (v : Value) (l : List Evt) (hv : RdS I v l) (hl : l.length ≤ 1000000) :
    FnI Tryz.prog 53 #[v] I (fun u J => RdS J u (sortF l)) := by
 obtain ⟨A, c0, rfl, hA, hc, hm⟩ := hv
 refine enter Tryz.func53 Tryz.call53 rfl Tryz.ntmps53 rfl (fun w0 => ?_)
 refine go 17 ?_
 refine c_loop3 ((0 : Nat)) (_) (I) (fun i v3 J => J)
  (fun i v3 J => [(0, .slice A l.length c0), (3, v3), (4, .int .i64 ((i : Nat) : Int))])
  (fun i v3 J => [])
  (fun i v3 J => i ≤ l.length ∧ ILe I J ∧ RdS J v3 (sortF (l.take i)))
  (fun i v3 J => l.length - i) ⟨Nat.zero_le _, ILe.refl _, RdS.nil'⟩ rfl sb rfl ?_
 intro i v3 J ⟨hi, hJ, hv3⟩
 have hA := hA.le hJ
 obtain ⟨A3, c3, rfl, hA3, hc3, hm3⟩ := id hv3
 have hsl : (sortF (l.take i)).length = i := by rw [sortF_len, List.length_take]; omega
 refine go 9 ?_
 refine cb rfl (fun h10 p10 => ?_) (fun h10 p10 => ?_)
 ·have hlt : i < l.length := by omega
  refine go 12 ?_
  refine c_cutx (α := Nat) (Ix := (fun k => J)) (Lx := (fun k => [(0, .slice A l.length c0), (3, .slice A3 (sortF (l.take i)).length c3), (4, .int .i64 ((i : Nat) : Int)), (5, .int .i64 ((k : Nat) : Int))])) (Hx := (fun k => [])) (p := (fun k => k ≤ i ∧ (∀ j y, k ≤ j → (sortF (l.take i))[j]? = some y → Day.day y > Day.day l[i]) ∧ (k = 0 ∨ ∃ y, (sortF (l.take i))[k - 1]? = some y ∧ Day.day y ≤ Day.day l[i]))) ?_ ?_
  ·refine go 1 ?_
   refine c_loop (α := Nat) i (fun k => J)
    (fun k => [(0, .slice A l.length c0), (3, .slice A3 (sortF (l.take i)).length c3), (4, .int .i64 ((i : Nat) : Int)), (5, .int .i64 ((k : Nat) : Int))])
    (fun k => [])
    (fun k => k ≤ i ∧ ∀ j y, k ≤ j → (sortF (l.take i))[j]? = some y → Day.day y > Day.day l[i])
    (fun k => k) ⟨Nat.le_refl _, fun j y h1 h2 => by have := (List.getElem?_eq_some_iff.1 h2).1; omega⟩ rfl ⟨rfl, rfl, rfl, congrArg (fun z : Nat => some (Value.int .i64 (z : Int))) hsl, trivial⟩ rfl ?_
   intro k ⟨hki, hk1⟩
   refine go 2 ?_
   refine d_startH T.mixed ?_
   refine d_tv 0 rfl rfl (by kernel_rfl) rfl .slnil rfl (v_move rfl) ?_
   refine d_tv 1 rfl rfl (by kernel_rfl) rfl .slnil rfl (v_gtr rfl rfl) ?_
   refine d_tv 2 rfl rfl (by kernel_rfl) rfl .slnil rfl (v_move rfl) ?_
   refine sxb 17 rfl (fun h17 p17 => ?_) (fun h17 p17 => ?_)
   ·refine d_t 3 rfl rfl (by kernel_rfl) rfl (fun _ m => m.keeps .slnil) (y_yes rfl rfl h17 (v_move rfl)) ?_
    refine d_t 4 rfl rfl (by kernel_rfl) rfl (fun _ m => m.keeps .slnil) (y_yes rfl rfl h17 (v_move rfl)) ?_
    refine d_t 5 rfl rfl (by kernel_rfl) rfl (fun _ m => m.keeps .slnil) (y_yes rfl rfl h17 (OV.cast (u := .int .i64 ((k - 1 : Nat) : Int)) (v_sub rfl rfl ⟨by omega, by omega⟩) (congrArg (Value.int .i64) (by omega)))) ?_
    obtain ⟨b21, o21, w21, e21, c21, r21⟩ := RdA.at_ hA3 (i := k - 1) (by omega)
    obtain rfl := r21
    refine d_t 6 rfl rfl (by kernel_rfl) rfl (fun _ m => m.keeps .slnil) (y_yes rfl rfl h17 (v_idx he rfl rfl e21 (k - 1) (by omega) (by omega))) ?_
    refine d_t 7 rfl rfl (by kernel_rfl) rfl (fun _ m => m.keeps .slnil) (y_yes rfl rfl h17 (v_fieldAddr he rfl)) ?_
    refine d_t 8 rfl rfl (by kernel_rfl) rfl (fun _ m => m.keeps .slnil) (y_yes rfl rfl h17 (v_ldI he rfl (c21 1 _ rfl))) ?_
    refine d_t 9 rfl rfl (by kernel_rfl) rfl (fun _ m => m.keeps .slnil) (y_yes rfl rfl h17 (v_move rfl)) ?_
    refine d_t 10 rfl rfl (by kernel_rfl) rfl (fun _ m => m.keeps .slnil) (y_yes rfl rfl h17 (v_move rfl)) ?_
    obtain ⟨b26, o26, w26, e26, c26, r26⟩ := RdA.at_ hA (i := i) hlt
    obtain rfl := r26
    refine d_t 11 rfl rfl (by kernel_rfl) rfl (fun _ m => m.keeps .slnil) (y_yes rfl rfl h17 (v_idx he rfl rfl e26 (i) (by omega) hlt)) ?_
    refine d_t 12 rfl rfl (by kernel_rfl) rfl (fun _ m => m.keeps .slnil) (y_yes rfl rfl h17 (v_fieldAddr he rfl)) ?_
    refine d_t 13 rfl rfl (by kernel_rfl) rfl (fun _ m => m.keeps .slnil) (y_yes rfl rfl h17 (v_ldI he rfl (c26 1 _ rfl))) ?_
    refine d_t 14 rfl rfl (by kernel_rfl) rfl (fun _ m => m.keeps .slnil) (y_yes rfl rfl h17 (v_gtr rfl rfl)) ?_
    refine d_tv 15 rfl rfl (by kernel_rfl) rfl .slnil rfl (v_and_t h17 rfl rfl) ?_
    refine d_done (by kernel_rfl) ?_
    refine go 1 ?_
    refine cb rfl (fun h30 p30 => ?_) (fun h30 p30 => ?_)
    ·refine go 10 ?_
     exact q_next (k - 1) ⟨by omega, fun j y h1 h2 => by
       rcases Nat.lt_or_ge j k with h | h
       · obtain rfl : j = k - 1 := by omega
         rw [List.getElem?_eq_getElem (by omega)] at h2
         cases h2
         exact p30
       · exact hk1 j y h h2⟩ (by omega) rfl ⟨rfl, rfl, rfl, congrArg (fun z : Int => some (Value.int .i64 z)) (by omega), trivial⟩ rfl
    ·refine go 5 ?_
     exact q_cutx k ⟨hki, hk1, .inr ⟨_, List.getElem?_eq_getElem (by omega), Int.not_lt.1 p30⟩⟩ sb rfl rfl
   ·refine d_t 3 rfl rfl (by kernel_rfl) rfl (fun _ m => m.keeps .slnil) (y_no rfl rfl h17) ?_
    refine d_t 4 rfl rfl (by kernel_rfl) rfl (fun _ m => m.keeps .slnil) (y_no rfl rfl h17) ?_
    refine d_t 5 rfl rfl (by kernel_rfl) rfl (fun _ m => m.keeps .slnil) (y_no rfl rfl h17) ?_
    refine d_t 6 rfl rfl (by kernel_rfl) rfl (fun _ m => m.keeps .slnil) (y_no rfl rfl h17) ?_
    refine d_t 7 rfl rfl (by kernel_rfl) rfl (fun _ m => m.keeps .slnil) (y_no rfl rfl h17) ?_
    refine d_t 8 rfl rfl (by kernel_rfl) rfl (fun _ m => m.keeps .slnil) (y_no rfl rfl h17) ?_
    refine d_t 9 rfl rfl (by kernel_rfl) rfl (fun _ m => m.keeps .slnil) (y_no rfl rfl h17) ?_
    refine d_t 10 rfl rfl (by kernel_rfl) rfl (fun _ m => m.keeps .slnil) (y_no rfl rfl h17) ?_
    refine d_t 11 rfl rfl (by kernel_rfl) rfl (fun _ m => m.keeps .slnil) (y_no rfl rfl h17) ?_
    refine d_t 12 rfl rfl (by kernel_rfl) rfl (fun _ m => m.keeps .slnil) (y_no rfl rfl h17) ?_
    refine d_t 13 rfl rfl (by kernel_rfl) rfl (fun _ m => m.keeps .slnil) (y_no rfl rfl h17) ?_
    refine d_t 14 rfl rfl (by kernel_rfl) rfl (fun _ m => m.keeps .slnil) (y_no rfl rfl h17) ?_
    refine d_tv 15 rfl rfl (by kernel_rfl) rfl .slnil rfl (v_and_f h17 rfl) ?_
    refine d_done (by kernel_rfl) ?_
    refine go 1 ?_
    refine c_false rfl ?_
    refine go 5 ?_
    exact q_cutx k ⟨hki, hk1, .inl (by omega)⟩ sb rfl rfl
  ·intro k ⟨hki, hk1, hk2⟩
   refine go 1 ?_
   refine sx_knowI (fun hE8 hf8 => ?_)
   refine d_startH T.mixed ?_
   refine d_tv 0 rfl rfl (by kernel_rfl) rfl .slnil rfl (v_move rfl) ?_
   refine d_tv 1 rfl rfl (by kernel_rfl) rfl .slnil rfl (v_move rfl) ?_
   obtain ⟨b35, o35, w35, e35, c35, r35⟩ := RdA.at_ hA (i := i) hlt
   obtain rfl := r35
   refine d_tv 2 rfl rfl (by kernel_rfl) rfl .slnil rfl (v_idx he rfl rfl e35 (i) (by omega) hlt) ?_
   refine d_tv 3 rfl rfl (by kernel_rfl) rfl .slnil rfl (v_ldIa he rfl c35 rfl) ?_
   refine d_tv 5 rfl rfl (by kernel_rfl) rfl .slnil rfl (v_move rfl) ?_
   refine d_tv 6 rfl rfl (by kernel_rfl) rfl .slnil rfl (v_move rfl) ?_
   refine d_tv 7 rfl rfl (by kernel_rfl) rfl .slnil rfl (v_slice_lo he rfl rfl k rfl (by omega)) ?_
   refine d_one 4 (by kernel_rfl) rfl ?_
   refine o_buildSlice he he rfl rfl rfl rfl rfl rfl rfl (fun v37 => ?_)
   refine d_on (fun _ m => m.keeps (.cons _ .slnil)) ?_
   refine d_one 8 (by kernel_rfl) rfl ?_
   refine o_appendR ((hv3.drop k (by omega))) rfl he he rfl rfl rfl rfl (by simp; omega) (by simp; omega) rfl (fun v41 x41 f41 => ?_)
   refine sx_pubrow (l := l[i] :: (sortF (l.take i)).drop k) rfl (by simp; omega) (.cons rfl f41) (fun I41 j41 R41 => ?_)
   have hA3 := hA3.le j41
   have hv3 := hv3.le j41
   refine d_on (fun _ m => m.keepsI .slnil (j41) hE8 hf8) ?_
   refine d_t 9 rfl rfl (by kernel_rfl) rfl (fun _ m => m.keepsI .slnil (j41) hE8 hf8) (y_v rfl (v_assign rfl)) ?_
   refine d_done (by kernel_rfl) ?_
   refine go 3 ?_
   refine o_buildSlice he he rfl rfl rfl rfl rfl rfl rfl (fun v42 => ?_)
   refine go 2 ?_
   refine o_v rfl (v_slice_hi he rfl rfl k rfl (by omega)) ?_
   refine go 1 ?_
   refine o_appendR ((hv3.take k (by omega))) rfl he he rfl rfl rfl rfl (by simp; omega) (by simp; omega) rfl (fun v46 x46 f46 => ?_)
   refine go 2 ?_
   refine o_appendR (R41) rfl he he rfl rfl rfl rfl (by simp; omega) (by simp; omega) rfl (fun v48 x48 f48 => ?_)
   refine sx_pubrow (l := (sortF (l.take i)).take k ++ l[i] :: (sortF (l.take i)).drop k) rfl (by simp <;> omega) (((Flat.nil.append f46).append f48)) (fun I48 j48 R48 => ?_)
   refine go 10 ?_
   exact q_next3 (i + 1) (_) (_) ⟨by omega, hJ.trans (j41.trans j48), by rw [← take_succ_of hlt, ← ins_right (k := k) (by omega) hk1 (by rcases hk2 with h | h; exact .inl h; exact .inr h)]; simpa using R48⟩ (by omega) rfl sb rfl
 ·refine go 12 ?_
  refine fin1 rfl rfl ?_
  have e : i = l.length := (by omega)
  subst e
  exact q_i (by have h := hv3; rwa [List.take_length] at h ⊢)

theorem ref11Run (I : IMap) (vc : Value) (c : List Kind) (hvc : RdS I vc c) (hsc : SmC c) (v : Value) (l : List Evt) (hv : RdS I v l) (hl : l.length ≤ 1000000) (hse : ∀ e ∈ l, SmE e) :
    FnI Tryz.prog 33 #[.agg #[vc], v] I (fun u J => ∃ w, u = .tuple #[.agg #[w], .int .i64 (runF c l).2.1, .int .i64 (runF c l).2.2] ∧ RdS J w (runF c l).1) := by
 refine enter Tryz.func33 Tryz.call33 rfl Tryz.ntmps33 rfl (fun w0 => ?_)
 refine go 3 ?_
 refine o_box _ rfl rfl rfl (fun g2 => ?_)
 refine go 1 ?_
 refine o_alloc he rfl (fun g4 => ?_)
 refine go 9 ?_
 refine o_callV (refValid _ vc c hvc hsc) rfl rfl ?_
 refine go 3 ?_
 refine cb rfl (fun h14 p14 => ?_) (fun h14 p14 => ?_)
 ·refine go 3 ?_
  refine o_val rfl (v_build (pl := [(0, 1)]) he he rfl rfl) ?_
  refine go 1 ?_
  refine o_stw _ he rfl rfl rfl rfl rfl rfl ?_
  refine go 6 ?_
  refine fin3 rfl ⟨_, _, _, rfl, m0, .inr ⟨_, he, rfl, rfl⟩⟩ rfl rfl ?_
  have hr : runF c l = ([], -1, 1) := by unfold runF; rw [if_pos (by rw [valid_same]; simpa using h14)]
  exact q_i ⟨_, by rw [hr], by rw [hr]; exact RdS.nil'⟩
 ·have hC : validC c = true := by rw [valid_same]; simpa using h14
  refine go 6 ?_
  refine o_call (ref11Sort _ v l hv hl) rfl rfl (fun v17 I17 j17 q17 => ?_)
  have hvc := hvc.le j17
  have q17s := q17
  obtain ⟨A17, c17, rfl, hA17, _, _⟩ := q17
  have hsl := sortF_len l
  refine go 6 ?_
  refine o_alloc he rfl (fun g8 => ?_)
  refine go 9 ?_
  refine c_loop4 (0) ([]) (.slice none 0 0) (I17) (fun i st v8 J => J)
   (fun i st v8 J => [(2, .pointer (some ⟨g2, 0, none⟩)), (4, .pointer (some ⟨g4, 0, none⟩)), (7, .slice A17 (sortF l).length c17), (8, .pointer (some ⟨g8, 0, none⟩)), (9, .int .i64 ((i : Nat) : Int))])
   (fun i st v8 J => [.blk g8 69 [v8], .blk g4 69 [.slice none 0 0], .blk g2 24 [vc]])
   (fun i st v8 J => i ≤ (sortF l).length ∧ ILe I17 J ∧ RdS J v8 st ∧ SmF st ∧ runGo c [] 0 (sortF l) = runGo c st (i : Nat) ((sortF l).drop i))
   (fun i st v8 J => (sortF l).length - i) ⟨Nat.zero_le _, ILe.refl _, RdS.nil', SmF.nil, rfl⟩ rfl sb rfl ?_
  intro i st v8 J ⟨hi, hJ, hv8, hsf, hgo⟩
  have hvc := hvc.le hJ
  have hA17 := hA17.le hJ
  refine go 9 ?_
  refine cb rfl (fun h21 p21 => ?_) (fun h21 p21 => ?_)
  ·have hlt : i < (sortF l).length := by omega
   refine go 5 ?_
   refine sx_knowI (fun hE8 hf8 => ?_)
   refine d_startH T.mixed ?_
   refine d_tv 0 rfl rfl (by kernel_rfl) rfl (.refl _) rfl (v_ldw m2 he rfl rfl) ?_
   refine d_tv 1 rfl rfl (by kernel_rfl) rfl (.refl _) rfl (v_ldw m0 he rfl rfl) ?_
   refine d_tv 2 rfl rfl (by kernel_rfl) rfl (.refl _) rfl (v_move rfl) ?_
   refine d_tv 3 rfl rfl (by kernel_rfl) rfl (.refl _) rfl (v_move rfl) ?_
   obtain ⟨b29, o29, w29, e29, c29, r29⟩ := RdA.at_ hA17 (i := i) hlt
   obtain rfl := r29
   refine d_tv 4 rfl rfl (by kernel_rfl) rfl (.refl _) rfl (v_idx he rfl rfl e29 (i) (by omega) hlt) ?_
   refine d_tv 5 rfl rfl (by kernel_rfl) rfl (.refl _) rfl (v_ldIa he rfl c29 rfl) ?_
   refine d_two 6 10 (by kernel_rfl) rfl rfl ?_ ?_
   ·refine o_call (ref10Apply _ vc c hvc hsc _ st hv8 hsf (sortF l)[i] (hse _ (sortF_mem.1 (List.getElem_mem hlt)))) rfl rfl (fun v31 I31 j31 q31 => ?_)
    obtain ⟨w31, rfl, hw31⟩ := q31
    refine d_on (fun _ m => m.keepsI (.refl _) (j31) hE8 hf8) ?_
    refine d_t 7 rfl rfl (by kernel_rfl) rfl (fun _ m => m.keepsI (.refl _) (j31) hE8 hf8) (y_v rfl (v_move rfl)) ?_
    refine d_t 8 rfl rfl (by kernel_rfl) rfl (fun _ m => m.keepsI (.refl _) (j31) hE8 hf8) (y_v rfl (v_extract rfl rfl)) ?_
    refine d_t 9 rfl rfl (by kernel_rfl) rfl (fun _ m => m.keepsI (.refl _) (j31) hE8 hf8) (y_v rfl (v_extract rfl rfl)) ?_
    refine d_one 10 (by kernel_rfl) rfl ?_
    refine o_alloc he rfl (fun g10 => ?_)
    refine d_on (fun _ m => m.keepsI (.cons _ (.refl _)) (j31) hE8 hf8) ?_
    refine d_one 11 (by kernel_rfl) rfl ?_
    refine o_stw _ he rfl rfl rfl rfl rfl (by simp [hw31.one]) ?_
    refine d_on (fun _ m => m.keepsI (.cons _ (.refl _)) (j31) hE8 hf8) ?_
    refine d_t 12 rfl rfl (by kernel_rfl) rfl (fun _ m => m.keepsI (.cons _ (.refl _)) (j31) hE8 hf8) (y_v rfl (v_assign rfl)) ?_
    refine d_done (by kernel_rfl) ?_
    refine go 8 ?_
    refine cb rfl (fun h35 p35 => ?_) (fun h35 p35 => ?_)
    ·have hok : ¬ (applyF c st (sortF l)[i]).2 = 0 := by simpa using p35
     refine go 3 ?_
     refine o_val rfl (v_build (pl := [(0, 1)]) he he rfl rfl) ?_
     refine go 3 ?_
     refine bring2 ?_
     refine o_stw _ he rfl rfl rfl rfl rfl rfl ?_
     refine go 11 ?_
     refine fin3 rfl ⟨_, _, _, rfl, m0, .inr ⟨_, he, rfl, rfl⟩⟩ rfl rfl ?_
     have hr : runF c l = ([], ((i : Nat) : Int), (applyF c st (sortF l)[i]).2) := by unfold runF; rw [if_neg (by simp [hC]), hgo, run_step hlt, if_neg hok]
     exact q_i ⟨_, by rw [hr]; rfl, by rw [hr]; exact RdS.nil'⟩
    ·have hok : (applyF c st (sortF l)[i]).2 = 0 := by simpa using p35
     refine go 5 ?_
     refine bring1 ?_
     refine o_stw _ he rfl rfl rfl rfl rfl (by simp [hw31.one]) ?_
     refine go 9 ?_
     refine bring1 ?_
     refine sx_drop ?_
     exact q_next4 (i + 1) (_) (_) (_) ⟨by omega, hJ.trans j31, hw31, applyF_sm hsf (hse _ (sortF_mem.1 (List.getElem_mem hlt))), by rw [hgo, run_step hlt, if_pos hok]; rfl⟩ (by omega) rfl sb rfl
   ·refine o_alloc he rfl (fun g10 => ?_)
    refine d_on (fun _ m => m.keeps (.cons _ (.refl _))) ?_
    refine d_one 6 (by kernel_rfl) rfl ?_
    refine o_call (ref10Apply _ vc c hvc hsc _ st hv8 hsf (sortF l)[i] (hse _ (sortF_mem.1 (List.getElem_mem hlt)))) rfl rfl (fun v31 I31 j31 q31 => ?_)
    obtain ⟨w31, rfl, hw31⟩ := q31
    refine d_on (fun _ m => m.keepsI (.cons _ (.refl _)) (j31) hE8 hf8) ?_
    refine d_t 7 rfl rfl (by kernel_rfl) rfl (fun _ m => m.keepsI (.cons _ (.refl _)) (j31) hE8 hf8) (y_v rfl (v_move rfl)) ?_
    refine d_t 8 rfl rfl (by kernel_rfl) rfl (fun _ m => m.keepsI (.cons _ (.refl _)) (j31) hE8 hf8) (y_v rfl (v_extract rfl rfl)) ?_
    refine d_t 9 rfl rfl (by kernel_rfl) rfl (fun _ m => m.keepsI (.cons _ (.refl _)) (j31) hE8 hf8) (y_v rfl (v_extract rfl rfl)) ?_
    refine d_one 11 (by kernel_rfl) rfl ?_
    refine o_stw _ he rfl rfl rfl rfl rfl (by simp [hw31.one]) ?_
    refine d_on (fun _ m => m.keepsI (.cons _ (.refl _)) (j31) hE8 hf8) ?_
    refine d_t 12 rfl rfl (by kernel_rfl) rfl (fun _ m => m.keepsI (.cons _ (.refl _)) (j31) hE8 hf8) (y_v rfl (v_assign rfl)) ?_
    refine d_done (by kernel_rfl) ?_
    refine go 8 ?_
    refine cb rfl (fun h35 p35 => ?_) (fun h35 p35 => ?_)
    ·have hok : ¬ (applyF c st (sortF l)[i]).2 = 0 := by simpa using p35
     refine go 3 ?_
     refine o_val rfl (v_build (pl := [(0, 1)]) he he rfl rfl) ?_
     refine go 3 ?_
     refine bring2 ?_
     refine o_stw _ he rfl rfl rfl rfl rfl rfl ?_
     refine go 11 ?_
     refine fin3 rfl ⟨_, _, _, rfl, m0, .inr ⟨_, he, rfl, rfl⟩⟩ rfl rfl ?_
     have hr : runF c l = ([], ((i : Nat) : Int), (applyF c st (sortF l)[i]).2) := by unfold runF; rw [if_neg (by simp [hC]), hgo, run_step hlt, if_neg hok]
     exact q_i ⟨_, by rw [hr]; rfl, by rw [hr]; exact RdS.nil'⟩
    ·have hok : (applyF c st (sortF l)[i]).2 = 0 := by simpa using p35
     refine go 5 ?_
     refine bring1 ?_
     refine o_stw _ he rfl rfl rfl rfl rfl (by simp [hw31.one]) ?_
     refine go 9 ?_
     refine bring1 ?_
     refine sx_drop ?_
     exact q_next4 (i + 1) (_) (_) (_) ⟨by omega, hJ.trans j31, hw31, applyF_sm hsf (hse _ (sortF_mem.1 (List.getElem_mem hlt))), by rw [hgo, run_step hlt, if_pos hok]; rfl⟩ (by omega) rfl sb rfl
  ·refine go 9 ?_
   refine bring1 ?_
   refine o_stw _ he rfl rfl rfl rfl rfl (by simp [hv8.one]) ?_
   refine go 5 ?_
   refine fin3 rfl ⟨_, _, _, rfl, m0, .inr ⟨_, he, rfl, rfl⟩⟩ rfl rfl ?_
   have hr : runF c l = (st, -1, 0) := by unfold runF; rw [if_neg (by simp [hC]), hgo, List.drop_eq_nil_of_le (by omega)]; rfl
   exact q_i ⟨_, by rw [hr], by rw [hr]; exact hv8⟩

end Go.Proofs.YtkmdojpfccjnoaaGreat
