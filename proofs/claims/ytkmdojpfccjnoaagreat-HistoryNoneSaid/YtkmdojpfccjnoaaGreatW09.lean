/- Walks, printed by a program out of the code of the functions: each theorem is a contract of one function. -/
import Derived.Test.YtkmdojpfccjnoaaGreatW08
import Derived.Test.YtkmdojpfccjnoaaGreatM09
namespace Go.Proofs.YtkmdojpfccjnoaaGreat
open Go Go.Sx
set_option linter.all false
set_option maxRecDepth 20000
set_option maxHeartbeats 4000000
instance T.arr_107 : Has (arrK Tryz.prog 107) (3, 106, 1) := ⟨by kernel_rfl⟩
instance T.arr_141 : Has (arrK Tryz.prog 141) (8, 9, 1) := ⟨by kernel_rfl⟩
instance T.elt_35 : Has (eltK Tryz.prog 35) (53, 14) := ⟨by kernel_rfl⟩
theorem T.eqg_53 : Tryz.prog.eqGuardType Tryz.prog.depth 53 = false := by kernel_rfl
instance T.fld_49_0 : Has (fldK Tryz.prog 49 0) (0, false, 1) := ⟨by kernel_rfl⟩
instance T.fld_49_1 : Has (fldK Tryz.prog 49 1) (1, false, 1) := ⟨by kernel_rfl⟩
instance T.fld_51_0 : Has (fldK Tryz.prog 51 0) (0, true, 2) := ⟨by kernel_rfl⟩
instance T.fld_51_1 : Has (fldK Tryz.prog 51 1) (2, true, 2) := ⟨by kernel_rfl⟩
instance T.fld_51_2 : Has (fldK Tryz.prog 51 2) (4, true, 2) := ⟨by kernel_rfl⟩
instance T.fld_53_0 : Has (fldK Tryz.prog 53 0) (0, false, 1) := ⟨by kernel_rfl⟩
instance T.fld_53_1 : Has (fldK Tryz.prog 53 1) (1, false, 1) := ⟨by kernel_rfl⟩
instance T.fld_53_2 : Has (fldK Tryz.prog 53 2) (2, false, 1) := ⟨by kernel_rfl⟩
instance T.fld_53_3 : Has (fldK Tryz.prog 53 3) (3, false, 1) := ⟨by kernel_rfl⟩
instance T.fld_53_4 : Has (fldK Tryz.prog 53 4) (4, false, 1) := ⟨by kernel_rfl⟩
instance T.fld_53_5 : Has (fldK Tryz.prog 53 5) (5, false, 1) := ⟨by kernel_rfl⟩
instance T.fld_53_6 : Has (fldK Tryz.prog 53 6) (6, false, 1) := ⟨by kernel_rfl⟩
instance T.fld_53_7 : Has (fldK Tryz.prog 53 7) (7, false, 1) := ⟨by kernel_rfl⟩
instance T.fld_53_8 : Has (fldK Tryz.prog 53 8) (8, true, 6) := ⟨by kernel_rfl⟩
instance T.pl_51 : Has (plK Tryz.prog 51) [(0, 2), (2, 2), (4, 2)] := ⟨by kernel_rfl⟩
instance T.pl_53 : Has (plK Tryz.prog 53) [(0, 1), (1, 1), (2, 1), (3, 1), (4, 1), (5, 1), (6, 1), (7, 1), (8, 6)] := ⟨by kernel_rfl⟩
instance T.ty_106 : Has (tyK Tryz.prog 106) (false, 1) := ⟨by kernel_rfl⟩
instance T.ty_107 : Has (tyK Tryz.prog 107) (true, 3) := ⟨by kernel_rfl⟩
instance T.ty_141 : Has (tyK Tryz.prog 141) (true, 8) := ⟨by kernel_rfl⟩
instance T.ty_51 : Has (tyK Tryz.prog 51) (true, 6) := ⟨by kernel_rfl⟩
instance T.ty_53 : Has (tyK Tryz.prog 53) (true, 14) := ⟨by kernel_rfl⟩
instance T.und_35 : Has (Tryz.prog.underlying 35) (.slice 53) := ⟨by kernel_rfl⟩
instance T.zero_107 : Has (zeroK Tryz.prog 107) [.pointer none, .pointer none, .pointer none] := ⟨by kernel_rfl⟩
instance T.zero_141 : Has (zeroK Tryz.prog 141) [.string ⟨#[]⟩, .string ⟨#[]⟩, .string ⟨#[]⟩, .string ⟨#[]⟩, .string ⟨#[]⟩, .string ⟨#[]⟩, .string ⟨#[]⟩, .string ⟨#[]⟩] := ⟨by kernel_rfl⟩
instance T.zero_51 : Has (zeroK Tryz.prog 51) [.int .i64 0, .int .i64 0, .int .i64 0, .int .i64 0, .int .i64 0, .int .i64 0] := ⟨by kernel_rfl⟩
instance T.zero_53 : Has (zeroK Tryz.prog 53) [.int .i64 0, .int .i64 0, .string ⟨#[]⟩, .string ⟨#[]⟩, .string ⟨#[]⟩, .string ⟨#[]⟩, .string ⟨#[]⟩, .string ⟨#[]⟩, .int .i64 0, .int .i64 0, .int .i64 0, .int .i64 0, .int .i64 0, .int .i64 0] := ⟨by kernel_rfl⟩
theorem eqS_Ivl (a b : Ivl) : eqV Tryz.prog 9 49 (.agg a.cells.toArray) (.agg b.cells.toArray) = some (decide (a = b)) := by
  rw [← Ivl.eqB_eq]
  kernel_rfl

theorem eqS_Use (a b : Use) : eqV Tryz.prog 9 51 (.agg a.cells.toArray) (.agg b.cells.toArray) = some (decide (a = b)) := by
  rw [← Use.eqB_eq]
  kernel_rfl

theorem eqS_Life (a b : Life) : eqV Tryz.prog 9 122 (.agg a.cells.toArray) (.agg b.cells.toArray) = some (decide (a = b)) := by
  rw [← Life.eqB_eq]
  kernel_rfl

theorem eqS_Evt (a b : Evt) : eqV Tryz.prog 9 53 (.agg a.cells.toArray) (.agg b.cells.toArray) = some (decide (a = b)) := by
  rw [← Evt.eqB_eq]
  kernel_rfl

theorem eqS_Prp (a b : Prp) : eqV Tryz.prog 9 137 (.agg a.cells.toArray) (.agg b.cells.toArray) = some (decide (a = b)) := by
  rw [← Prp.eqB_eq]
  kernel_rfl

theorem evWord (I : IMap) (op : Int) :
    FnV Tryz.prog 60 #[.int .i64 op] I (.string (wordOf op)) := by
 refine enter Tryz.func60 Tryz.call60 rfl Tryz.ntmps60 rfl (fun w0 => ?_)
 refine go 8 ?_
 refine o_val rfl (v_buildA he he rfl rfl) ?_
 refine go 1 ?_
 refine o_alloc he rfl (fun g3 => ?_)
 refine go 1 ?_
 refine o_stw _ he rfl rfl rfl rfl rfl rfl ?_
 refine go 8 ?_
 refine sxb 7 rfl (fun h7 p7 => ?_) (fun h7 p7 => ?_)
 ·refine go 5 ?_
  refine c_true rfl ?_
  refine go 7 ?_
  refine fin1 rfl rfl ?_
  exact q_v (congrArg Value.string (wordOf_out (by omega)).symm)
 ·refine go 5 ?_
  refine cb rfl (fun h10 p10 => ?_) (fun h10 p10 => ?_)
  ·refine go 7 ?_
   refine fin1 rfl rfl ?_
   exact q_v (congrArg Value.string (wordOf_out (by omega)).symm)
  ·refine go 5 ?_
   refine o_v rfl (v_aidx he rfl rfl op.toNat (by omega) (by omega)) ?_
   refine o_v rfl (v_ld m0 he rfl (by rw [show 0 + op.toNat * 1 = op.toNat from by omega]; exact wordOf_at (by omega) (by omega))) ?_
   refine go 4 ?_
   refine fin1 rfl rfl ?_
   exact q_v rfl

theorem evIvls (I : IMap) (g o : Nat) :
    FnV Tryz.prog 62 #[.pointer (some ⟨g, o, none⟩)] I (.agg #[.pointer (some ⟨g, o + 0, none⟩), .pointer (some ⟨g, o + 2, none⟩), .pointer (some ⟨g, o + 4, none⟩)]) := by
 refine enter Tryz.func62 Tryz.call62 rfl Tryz.ntmps62 rfl (fun w0 => ?_)
 refine go 3 ?_
 refine o_alloc he rfl (fun g2 => ?_)
 refine go 3 ?_
 refine d_start1 T.mixed ?_
 refine d_tv 0 rfl rfl (by kernel_rfl) rfl (.cons _ .slnil) rfl (v_move rfl) ?_
 refine d_tv 1 rfl rfl (by kernel_rfl) rfl (.cons _ .slnil) rfl (v_nilCheck rfl) ?_
 refine d_tv 2 rfl rfl (by kernel_rfl) rfl (.cons _ .slnil) rfl (v_fieldAddr he rfl) ?_
 refine d_tv 3 rfl rfl (by kernel_rfl) rfl (.cons _ .slnil) rfl (v_move rfl) ?_
 refine d_tv 4 rfl rfl (by kernel_rfl) rfl (.cons _ .slnil) rfl (v_nilCheck rfl) ?_
 refine d_tv 5 rfl rfl (by kernel_rfl) rfl (.cons _ .slnil) rfl (v_fieldAddr he rfl) ?_
 refine d_tv 6 rfl rfl (by kernel_rfl) rfl (.cons _ .slnil) rfl (v_move rfl) ?_
 refine d_tv 7 rfl rfl (by kernel_rfl) rfl (.cons _ .slnil) rfl (v_nilCheck rfl) ?_
 refine d_tv 8 rfl rfl (by kernel_rfl) rfl (.cons _ .slnil) rfl (v_fieldAddr he rfl) ?_
 refine d_one 9 (by kernel_rfl) rfl ?_
 refine o_val rfl (v_buildA he he rfl rfl) ?_
 refine d_on (fun _ m => m.keeps (.cons _ .slnil)) ?_
 refine d_one 10 (by kernel_rfl) rfl ?_
 refine o_stw _ he rfl rfl rfl rfl rfl rfl ?_
 refine d_on (fun _ m => m.keeps (.cons _ .slnil)) ?_
 refine d_done (by kernel_rfl) ?_
 refine go 2 ?_
 refine fin1 rfl ⟨_, _, _, rfl, m0, .inr ⟨_, he, rfl, rfl⟩⟩ ?_
 exact q_v rfl

theorem evValid1 (I : IMap) (s : ByteArray) (hs : Sm s) :
    FnV Tryz.prog 64 #[.string s] I (.bool (!nameOk s)) := by
 refine enter Tryz.func64 Tryz.call64 rfl Tryz.ntmps64 rfl (fun w0 => ?_)
 refine go 9 ?_
 refine o_callV (lexName _ s hs) rfl rfl ?_
 refine go 5 ?_
 refine fin1 rfl rfl ?_
 exact q_v rfl

theorem evValid (I : IMap) (e : Evt) (hs : SmE e) :
    FnV Tryz.prog 40 #[.agg e.cells.toArray] I (.bool (validE e)) := by
 refine enter Tryz.func40 Tryz.call40 rfl Tryz.ntmps40 rfl (fun w0 => ?_)
 refine go 3 ?_
 refine o_box _ rfl rfl rfl (fun g1 => ?_)
 refine go 5 ?_
 refine c_cut (I' := I) (L' := [(1, .pointer (some ⟨g1, 0, none⟩)), (26, .bool (evBad e))]) (H' := [.blk g1 53 e.cells]) ?_ ?_
 ·refine go 4 ?_
  refine o_callV (evWord _ e.op) rfl rfl ?_
  refine go 2 ?_
  refine sxb 11 rfl (fun h11 p11 => ?_) (fun h11 p11 => ?_)
  ·refine go 17 ?_
   exact q_cut ⟨rfl, (congrArg (fun b => some (Value.bool b)) (by simp only [evBad, h11, bS])), trivial⟩ rfl rfl
  ·refine go 5 ?_
   refine sxb 16 rfl (fun h16 p16 => ?_) (fun h16 p16 => ?_)
   ·refine go 12 ?_
    exact q_cut ⟨rfl, (congrArg (fun b => some (Value.bool b)) (by simp only [evBad, h11, h16, bS])), trivial⟩ rfl rfl
   ·refine go 5 ?_
    refine sxb 21 rfl (fun h21 p21 => ?_) (fun h21 p21 => ?_)
    ·refine go 7 ?_
     exact q_cut ⟨rfl, (congrArg (fun b => some (Value.bool b)) (by simp only [evBad, h11, h16, h21, bS])), trivial⟩ rfl rfl
    ·refine go 3 ?_
     refine o_yes rfl rfl h21 (o_callV (lexName _ _ hs.1) rfl rfl ?_)
     refine go 4 ?_
     exact q_cut ⟨rfl, (congrArg (fun b => some (Value.bool b)) (by simp only [evBad, h11, h16, h21, bS])), trivial⟩ rfl rfl
 ·refine cb rfl (fun h26 p26 => ?_) (fun h26 p26 => ?_)
  ·refine go 7 ?_
   refine fin1 rfl rfl ?_
   exact q_v (congrArg Value.bool (by simp only [validE, h26]; rfl))
  ·refine go 5 ?_
   refine o_buildSlice he he rfl rfl rfl rfl rfl rfl rfl (fun v27 => ?_)
   refine go 7 ?_
   refine o_alloc he rfl (fun g4 => ?_)
   refine go 1 ?_
   refine o_stw _ he rfl rfl rfl rfl rfl rfl ?_
   refine go 6 ?_
   refine o_st1 he rfl rfl rfl rfl ?_
   refine go 2 ?_
   refine o_st1 he rfl rfl rfl rfl ?_
   refine go 2 ?_
   refine o_st1 he rfl rfl rfl rfl ?_
   refine go 3 ?_
   refine c_cutx2 (Ix := (fun v3 xs => I)) (Lx := (fun v3 xs => [(3, v3), (4, .pointer (some ⟨g4, 0, none⟩))])) (Hx := (fun v3 xs => [.row v3 9 1 (namesOf e).length xs, .blk g4 53 (restOf e).cells])) (p := (fun v3 xs => Flat I xs (namesOf e) ∧ opBad e = false)) ?_ ?_
   ·refine go 13 ?_
    refine cb rfl (fun h34 p34 => ?_) (fun h34 p34 => ?_)
    ·refine go 4 ?_
     refine o_buildSlice he he rfl rfl rfl rfl rfl rfl rfl (fun v38 => ?_)
     refine go 3 ?_
     refine bring1 ?_
     refine o_st1 he rfl rfl rfl rfl ?_
     refine go 3 ?_
     refine bring2 ?_
     refine sx_drop ?_
     refine bring2 ?_
     refine sx_drop ?_
     refine bring1 ?_
     exact q_cutx2 (_) (_) ⟨(by simp only [namesOf, p26, p34, if_true, if_false]; first | exact .nil | exact .one rfl | exact .cons rfl (.one rfl)), (by simp [opBad, p26, p34, h26, h34] <;> assumption)⟩ sb (by simp only [namesOf, restOf, p26, p34, if_true, if_false]; rfl) rfl
    ·refine go 6 ?_
     refine cb rfl (fun h40 p40 => ?_) (fun h40 p40 => ?_)
     ·refine go 10 ?_
      refine cb rfl (fun h46 p46 => ?_) (fun h46 p46 => ?_)
      ·refine go 9 ?_
       refine fin1 rfl rfl ?_
       exact q_v (congrArg Value.bool (by simp [validE, opBad, p26, p34, p40, p46, h26, h34, h40, h46]))
      ·refine go 8 ?_
       refine o_buildSlice he he rfl rfl rfl rfl rfl rfl rfl (fun v51 => ?_)
       refine go 3 ?_
       refine bring1 ?_
       refine o_st1 he rfl rfl rfl rfl ?_
       refine go 2 ?_
       refine o_st1 he rfl rfl rfl rfl ?_
       refine go 3 ?_
       refine bring2 ?_
       refine sx_drop ?_
       refine bring2 ?_
       refine sx_drop ?_
       refine bring1 ?_
       exact q_cutx2 (_) (_) ⟨(by simp only [namesOf, p26, p34, p40, p46, if_true, if_false]; first | exact .nil | exact .one rfl | exact .cons rfl (.one rfl)), (by simp [opBad, p26, p34, p40, p46, h26, h34, h40, h46] <;> assumption)⟩ sb (by simp only [namesOf, restOf, p26, p34, p40, p46, if_true, if_false]; rfl) rfl
     ·refine go 6 ?_
      refine cb rfl (fun h54 p54 => ?_) (fun h54 p54 => ?_)
      ·refine go 2 ?_
       refine c_cut (I' := I) (L' := [(1, .pointer (some ⟨g1, 0, none⟩)), (3, v27), (4, .pointer (some ⟨g4, 0, none⟩)), (64, .bool (decide (e.value = nil8) || decide ((200 : Int) < (e.value.size : Nat))))]) (H' := [.row v27 9 1 0 [], .blk g1 53 e.cells, .blk g4 53 ({ e with op := 0, day := 0, part := nil8 } : Evt).cells]) ?_ ?_
       ·refine go 5 ?_
        refine sxb 59 rfl (fun h59 p59 => ?_) (fun h59 p59 => ?_)
        ·refine go 7 ?_
         refine bring2 ?_
         refine bring2 ?_
         exact q_cut ⟨rfl, rfl, rfl, (congrArg (fun b => some (Value.bool b)) (by simp only [h26, h34, h40, h54, h59, bS])), trivial⟩ rfl rfl
        ·refine go 7 ?_
         refine bring2 ?_
         refine bring2 ?_
         exact q_cut ⟨rfl, rfl, rfl, (congrArg (fun b => some (Value.bool b)) (by simp only [h26, h34, h40, h54, h59, bS])), trivial⟩ rfl rfl
       ·refine cb rfl (fun h64 p64 => ?_) (fun h64 p64 => ?_)
        ·refine go 9 ?_
         refine fin1 rfl rfl ?_
         exact q_v (congrArg Value.bool (by simp [validE, opBad, p54, h64]))
        ·refine go 6 ?_
         refine o_buildSlice he he rfl rfl rfl rfl rfl rfl rfl (fun v67 => ?_)
         refine go 3 ?_
         refine bring3 ?_
         refine o_st1 he rfl rfl rfl rfl ?_
         refine go 2 ?_
         refine o_st1 he rfl rfl rfl rfl ?_
         refine go 3 ?_
         refine bring2 ?_
         refine sx_drop ?_
         refine bring2 ?_
         refine sx_drop ?_
         refine bring1 ?_
         exact q_cutx2 (_) (_) ⟨(by simp only [namesOf, p26, p34, p40, p54, p64, if_true, if_false]; first | exact .nil | exact .one rfl | exact .cons rfl (.one rfl)), (by simp [opBad, p26, p34, p40, p54, p64, h64] <;> assumption)⟩ sb (by simp only [namesOf, restOf, p26, p34, p40, p54, p64, if_true, if_false]; rfl) rfl
      ·refine go 6 ?_
       refine cb rfl (fun h70 p70 => ?_) (fun h70 p70 => ?_)
       ·refine go 5 ?_
        refine o_callV (evIvls _ g1 8) rfl rfl ?_
        refine go 4 ?_
        refine bring1 ?_
        refine bring1 ?_
        refine bring2 ?_
        refine c_loop (α := Nat) 0 (fun i => I)
         (fun i => [(1, .pointer (some ⟨g1, 0, none⟩)), (3, v27), (4, .pointer (some ⟨g4, 0, none⟩)), (73, .agg (usePtrs g1 8).toArray), (74, .int .i64 (i : Int))])
         (fun i => [.blk g1 53 e.cells, .blk g4 53 ({ e with op := 0, day := 0, part := nil8 } : Evt).cells, .row v27 9 1 0 []])
         (fun i => i ≤ 3 ∧ useTo e.use i = true)
         (fun i => 3 - i) ⟨by omega, rfl⟩ rfl sb rfl ?_
        intro i ⟨hi, hn⟩
        refine go 6 ?_
        refine cb rfl (fun h75 p75 => ?_) (fun h75 p75 => ?_)
        ·have hlt : i < 3 := by omega
         refine go 6 ?_
         refine o_v rfl (v_vidx he he rfl rfl i rfl hlt (usePtrs_at g1 8 hlt)) ?_
         refine go 4 ?_
         refine c_cut (I' := I) (L' := [(1, .pointer (some ⟨g1, 0, none⟩)), (3, v27), (4, .pointer (some ⟨g4, 0, none⟩)), (73, .agg (usePtrs g1 8).toArray), (74, .int .i64 (i : Int)), (99, .bool (!ivlOk (useAt e.use i)))]) (H' := [.blk g1 53 e.cells, .blk g4 53 ({ e with op := 0, day := 0, part := nil8 } : Evt).cells, .row v27 9 1 0 []]) ?_ ?_
         ·refine d_startH T.mixed ?_
          refine d_tv 0 rfl rfl (by kernel_rfl) rfl (.refl _) rfl (v_move rfl) ?_
          refine d_tv 1 rfl rfl (by kernel_rfl) rfl (.refl _) rfl (v_nilCheck rfl) ?_
          refine d_tv 2 rfl rfl (by kernel_rfl) rfl (.refl _) rfl (v_fieldAddr he rfl) ?_
          refine d_tv 3 rfl rfl (by kernel_rfl) rfl (.refl _) rfl (v_ld m0 he rfl (use_low e hlt)) ?_
          refine d_tv 4 rfl rfl (by kernel_rfl) rfl (.refl _) rfl (v_lss rfl rfl) ?_
          refine d_tv 5 rfl rfl (by kernel_rfl) rfl (.refl _) rfl (v_move rfl) ?_
          refine sxb 82 rfl (fun h82 p82 => ?_) (fun h82 p82 => ?_)
          ·refine d_t 6 rfl rfl (by kernel_rfl) rfl (fun _ m => m.keeps (.refl _)) (y_no rfl rfl h82) ?_
           refine d_t 7 rfl rfl (by kernel_rfl) rfl (fun _ m => m.keeps (.refl _)) (y_no rfl rfl h82) ?_
           refine d_t 8 rfl rfl (by kernel_rfl) rfl (fun _ m => m.keeps (.refl _)) (y_no rfl rfl h82) ?_
           refine d_t 9 rfl rfl (by kernel_rfl) rfl (fun _ m => m.keeps (.refl _)) (y_no rfl rfl h82) ?_
           refine d_t 10 rfl rfl (by kernel_rfl) rfl (fun _ m => m.keeps (.refl _)) (y_no rfl rfl h82) ?_
           refine d_t 11 rfl rfl (by kernel_rfl) rfl (fun _ m => m.keeps (.refl _)) (y_no rfl rfl h82) ?_
           refine d_t 12 rfl rfl (by kernel_rfl) rfl (fun _ m => m.keeps (.refl _)) (y_no rfl rfl h82) ?_
           refine d_t 13 rfl rfl (by kernel_rfl) rfl (fun _ m => m.keeps (.refl _)) (y_no rfl rfl h82) ?_
           refine d_t 14 rfl rfl (by kernel_rfl) rfl (fun _ m => m.keeps (.refl _)) (y_no rfl rfl h82) ?_
           refine d_tv 15 rfl rfl (by kernel_rfl) rfl (.refl _) rfl (v_or_t h82 rfl) ?_
           refine d_tv 16 rfl rfl (by kernel_rfl) rfl (.refl _) rfl (v_move rfl) ?_
           refine d_t 17 rfl rfl (by kernel_rfl) rfl (fun _ m => m.keeps (.refl _)) (y_no rfl rfl rfl) ?_
           refine d_t 18 rfl rfl (by kernel_rfl) rfl (fun _ m => m.keeps (.refl _)) (y_no rfl rfl rfl) ?_
           refine d_t 19 rfl rfl (by kernel_rfl) rfl (fun _ m => m.keeps (.refl _)) (y_no rfl rfl rfl) ?_
           refine d_t 20 rfl rfl (by kernel_rfl) rfl (fun _ m => m.keeps (.refl _)) (y_no rfl rfl rfl) ?_
           refine d_t 21 rfl rfl (by kernel_rfl) rfl (fun _ m => m.keeps (.refl _)) (y_no rfl rfl rfl) ?_
           refine d_tv 22 rfl rfl (by kernel_rfl) rfl (.refl _) rfl (v_or_t rfl rfl) ?_
           refine d_done (by kernel_rfl) ?_
           refine go 1 ?_
           exact q_cut ⟨rfl, rfl, rfl, rfl, rfl, (congrArg (fun b => some (Value.bool b)) (by simp only [ivlOk, h75, h82, bS, Bool.not_not])), trivial⟩ rfl rfl
          ·refine d_t 6 rfl rfl (by kernel_rfl) rfl (fun _ m => m.keeps (.refl _)) (y_yes rfl rfl h82 (v_move rfl)) ?_
           refine d_t 7 rfl rfl (by kernel_rfl) rfl (fun _ m => m.keeps (.refl _)) (y_yes rfl rfl h82 (v_nilCheck rfl)) ?_
           refine d_t 8 rfl rfl (by kernel_rfl) rfl (fun _ m => m.keeps (.refl _)) (y_yes rfl rfl h82 (v_fieldAddr he rfl)) ?_
           refine d_t 9 rfl rfl (by kernel_rfl) rfl (fun _ m => m.keeps (.refl _)) (y_yes rfl rfl h82 (v_ld m0 he rfl (use_low e hlt))) ?_
           refine d_t 10 rfl rfl (by kernel_rfl) rfl (fun _ m => m.keeps (.refl _)) (y_yes rfl rfl h82 (v_move rfl)) ?_
           refine d_t 11 rfl rfl (by kernel_rfl) rfl (fun _ m => m.keeps (.refl _)) (y_yes rfl rfl h82 (v_nilCheck rfl)) ?_
           refine d_t 12 rfl rfl (by kernel_rfl) rfl (fun _ m => m.keeps (.refl _)) (y_yes rfl rfl h82 (v_fieldAddr he rfl)) ?_
           refine d_t 13 rfl rfl (by kernel_rfl) rfl (fun _ m => m.keeps (.refl _)) (y_yes rfl rfl h82 (v_ld m0 he rfl (use_high e hlt))) ?_
           refine d_t 14 rfl rfl (by kernel_rfl) rfl (fun _ m => m.keeps (.refl _)) (y_yes rfl rfl h82 (v_gtr rfl rfl)) ?_
           refine d_tv 15 rfl rfl (by kernel_rfl) rfl (.refl _) rfl (v_or_f h82 rfl rfl) ?_
           refine d_tv 16 rfl rfl (by kernel_rfl) rfl (.refl _) rfl (v_move rfl) ?_
           refine sxb 93 rfl (fun h93 p93 => ?_) (fun h93 p93 => ?_)
           ·refine d_t 17 rfl rfl (by kernel_rfl) rfl (fun _ m => m.keeps (.refl _)) (y_no rfl rfl h93) ?_
            refine d_t 18 rfl rfl (by kernel_rfl) rfl (fun _ m => m.keeps (.refl _)) (y_no rfl rfl h93) ?_
            refine d_t 19 rfl rfl (by kernel_rfl) rfl (fun _ m => m.keeps (.refl _)) (y_no rfl rfl h93) ?_
            refine d_t 20 rfl rfl (by kernel_rfl) rfl (fun _ m => m.keeps (.refl _)) (y_no rfl rfl h93) ?_
            refine d_t 21 rfl rfl (by kernel_rfl) rfl (fun _ m => m.keeps (.refl _)) (y_no rfl rfl h93) ?_
            refine d_tv 22 rfl rfl (by kernel_rfl) rfl (.refl _) rfl (v_or_t h93 rfl) ?_
            refine d_done (by kernel_rfl) ?_
            refine go 1 ?_
            exact q_cut ⟨rfl, rfl, rfl, rfl, rfl, (congrArg (fun b => some (Value.bool b)) (by simp only [ivlOk, h75, h82, h93, bS, Bool.not_not])), trivial⟩ rfl rfl
           ·refine d_t 17 rfl rfl (by kernel_rfl) rfl (fun _ m => m.keeps (.refl _)) (y_yes rfl rfl h93 (v_move rfl)) ?_
            refine d_t 18 rfl rfl (by kernel_rfl) rfl (fun _ m => m.keeps (.refl _)) (y_yes rfl rfl h93 (v_nilCheck rfl)) ?_
            refine d_t 19 rfl rfl (by kernel_rfl) rfl (fun _ m => m.keeps (.refl _)) (y_yes rfl rfl h93 (v_fieldAddr he rfl)) ?_
            refine d_t 20 rfl rfl (by kernel_rfl) rfl (fun _ m => m.keeps (.refl _)) (y_yes rfl rfl h93 (v_ld m0 he rfl (use_high e hlt))) ?_
            refine d_t 21 rfl rfl (by kernel_rfl) rfl (fun _ m => m.keeps (.refl _)) (y_yes rfl rfl h93 (v_gtr rfl rfl)) ?_
            refine d_tv 22 rfl rfl (by kernel_rfl) rfl (.refl _) rfl (v_or_f h93 rfl rfl) ?_
            refine d_done (by kernel_rfl) ?_
            refine go 1 ?_
            exact q_cut ⟨rfl, rfl, rfl, rfl, rfl, (congrArg (fun b => some (Value.bool b)) (by simp only [ivlOk, h75, h82, h93, bS, Bool.not_not])), trivial⟩ rfl rfl
         ·refine cb rfl (fun h99 p99 => ?_) (fun h99 p99 => ?_)
          ·refine go 13 ?_
           refine fin1 rfl rfl ?_
           exact q_v (congrArg Value.bool (by simp [validE, opBad, p70, use_not hlt (by simpa using h99)]))
          ·refine go 8 ?_
           exact q_next (i + 1) ⟨by omega, use_succ hn (by simpa using h99)⟩ (by omega) rfl sb rfl
        ·have hU : useTo e.use 3 = true := (show i = 3 by omega) ▸ hn
         refine go 7 ?_
         refine o_val rfl (v_build (pl := [(0, 2), (2, 2), (4, 2)]) he he rfl rfl) ?_
         refine go 2 ?_
         refine bring1 ?_
         refine o_st _ _ he rfl rfl rfl rfl rfl rfl rfl ?_
         refine go 3 ?_
         refine bring1 ?_
         refine sx_drop ?_
         refine bring1 ?_
         exact q_cutx2 (_) (_) ⟨(by simp only [namesOf, p26, p34, p40, p54, p70, p75, if_true, if_false]; first | exact .nil | exact .one rfl | exact .cons rfl (.one rfl)), (by simp [opBad, p26, p34, p40, p54, p70, p75, h75] <;> assumption)⟩ sb (by simp only [namesOf, restOf, p26, p34, p40, p54, p70, p75, if_true, if_false]; rfl) rfl
       ·refine go 3 ?_
        refine bring2 ?_
        refine sx_drop ?_
        refine bring1 ?_
        exact q_cutx2 (_) (_) ⟨(by simp only [namesOf, p26, p34, p40, p54, p70, if_true, if_false]; first | exact .nil | exact .one rfl | exact .cons rfl (.one rfl)), (by simp [opBad, p26, p34, p40, p54, p70, h26, h34, h40, h54, h70] <;> assumption)⟩ sb (by simp only [namesOf, restOf, p26, p34, p40, p54, p70, if_true, if_false]; rfl) rfl
   ·intro v3 xs ⟨hF, hO⟩
    refine go 4 ?_
    refine o_val rfl (v_build (pl := [(0, 1), (1, 1), (2, 1), (3, 1), (4, 1), (5, 1), (6, 1), (7, 1), (8, 6)]) he he rfl rfl) ?_
    refine o_v rfl (v_steql T.eqg_53 (eqS_Evt (restOf e) zEvt) rfl rfl) ?_
    refine go 1 ?_
    refine sxb 106 rfl (fun h106 p106 => ?_) (fun h106 p106 => ?_)
    ·refine go 2 ?_
     refine o_yes rfl rfl h106 (o_lendV m0 rfl rfl (hF) (fun I2 hI2 hR => containsFunc_string I2 _ _ hR _ [] (fun s => !nameOk s) (fun x hx vs hr => by cases hr; exact evValid1 I2 x (names_sm hs hx))) rfl rfl ?_)
     refine go 6 ?_
     refine fin1 rfl rfl ?_
     exact q_v (congrArg Value.bool (by simp only [validE, h26, hO, h106, bS]))
    ·refine go 8 ?_
     refine fin1 rfl rfl ?_
     exact q_v (congrArg Value.bool (by simp only [validE, h26, hO, h106, bS]))

theorem evNames (I : IMap) (e : Evt) (hs : SmE e) :
    FnI Tryz.prog 45 #[.agg e.cells.toArray] I (fun u J => RdS J u (namesE e)) := by
 refine enter Tryz.func45 Tryz.call45 rfl Tryz.ntmps45 rfl (fun w0 => ?_)
 refine go 3 ?_
 refine o_box _ rfl rfl rfl (fun g1 => ?_)
 refine go 9 ?_
 refine o_callV (evValid _ e hs) rfl rfl ?_
 refine go 4 ?_
 refine cb rfl (fun h3 p3 => ?_) (fun h3 p3 => ?_)
 ·refine go 8 ?_
  refine fin1 rfl rfl ?_
  exact q_i (by simp only [namesE, show validE e = false by simpa using h3, if_true]; exact RdS.nil')
 ·refine go 8 ?_
  refine cb rfl (fun h7 p7 => ?_) (fun h7 p7 => ?_)
  ·refine go 6 ?_
   refine o_v rfl (v_smin rfl rfl) ?_
   refine go 4 ?_
   refine o_v rfl (v_smax rfl rfl) ?_
   refine go 1 ?_
   refine o_buildSlice he he rfl rfl rfl rfl rfl rfl rfl (fun v21 => ?_)
   refine sx_pubrow (l := [minS e.part e.into, maxS e.part e.into]) rfl rfl (.cons rfl (.one rfl)) (fun I21 j21 R21 => ?_)
   refine go 6 ?_
   refine fin1 rfl rfl ?_
   exact q_i (by simp only [namesE, p3, p7, if_true, if_false, Bool.true_eq_false]; exact R21)
  ·refine go 8 ?_
   refine o_buildSlice he he rfl rfl rfl rfl rfl rfl rfl (fun v24 => ?_)
   refine sx_pubrow (l := [e.part]) rfl rfl (.one rfl) (fun I24 j24 R24 => ?_)
   refine go 4 ?_
   refine fin1 rfl rfl ?_
   exact q_i (by simp only [namesE, p3, p7, if_true, if_false, Bool.true_eq_false]; exact R24)

theorem refShort (I : IMap) (e : Evt) :
    FnV Tryz.prog 42 #[.agg e.cells.toArray] I (.bool (shortE e)) := by
 refine enter Tryz.func42 Tryz.call42 rfl Tryz.ntmps42 rfl (fun w0 => ?_)
 refine go 3 ?_
 refine o_box _ rfl rfl rfl (fun g1 => ?_)
 refine go 10 ?_
 refine sxb 7 rfl (fun h7 p7 => ?_) (fun h7 p7 => ?_)
 ·refine go 6 ?_
  refine sxb 13 rfl (fun h13 p13 => ?_) (fun h13 p13 => ?_)
  ·refine go 6 ?_
   refine sxb 19 rfl (fun h19 p19 => ?_) (fun h19 p19 => ?_)
   ·refine go 6 ?_
    refine sxb 25 rfl (fun h25 p25 => ?_) (fun h25 p25 => ?_)
    ·refine go 6 ?_
     refine sxb 31 rfl (fun h31 p31 => ?_) (fun h31 p31 => ?_)
     ·refine go 9 ?_
      refine fin1 rfl rfl ?_
      exact q_v (congrArg Value.bool (by simp only [shortE, h7, h13, h19, h25, h31, bS]))
     ·refine go 9 ?_
      refine fin1 rfl rfl ?_
      exact q_v (congrArg Value.bool (by simp only [shortE, h7, h13, h19, h25, h31, bS]))
    ·refine go 15 ?_
     refine fin1 rfl rfl ?_
     exact q_v (congrArg Value.bool (by simp only [shortE, h7, h13, h19, h25, bS]))
   ·refine go 21 ?_
    refine fin1 rfl rfl ?_
    exact q_v (congrArg Value.bool (by simp only [shortE, h7, h13, h19, bS]))
  ·refine go 27 ?_
   refine fin1 rfl rfl ?_
   exact q_v (congrArg Value.bool (by simp only [shortE, h7, h13, bS]))
 ·refine go 33 ?_
  refine fin1 rfl rfl ?_
  exact q_v (congrArg Value.bool (by simp only [shortE, h7, bS]))

theorem refFewE (I : IMap) (v : Value) (l : List Evt) (hv : RdS I v l) (n : Int) :
    FnV Tryz.prog 23 #[v, .int .i64 n] I (.bool (fewE l n)) := by
 obtain ⟨A, c0, rfl, hA, hc, hm⟩ := hv
 refine enter Tryz.func23 Tryz.call23 rfl Tryz.ntmps23 rfl (fun w0 => ?_)
 refine go 12 ?_
 refine c_loop (α := Nat) 0 (fun i => I)
  (fun i => [(0, .slice A l.length c0), (1, .int .i64 n), (5, .int .i64 (i : Int))])
  (fun i => [])
  (fun i => i ≤ l.length ∧ allP (fun _ e => shortE e) l i = true)
  (fun i => l.length - i) ⟨Nat.zero_le _, rfl⟩ rfl sb rfl ?_
 intro i ⟨hi, hn⟩
 refine go 8 ?_
 refine sxb 10 rfl (fun h10 p10 => ?_) (fun h10 p10 => ?_)
 ·have hlt : i < l.length := by omega
  refine go 6 ?_
  refine cb rfl (fun h14 p14 => ?_) (fun h14 p14 => ?_)
  ·have hlt : i < l.length := by omega
   refine go 8 ?_
   obtain ⟨b19, o19, w19, e19, c19, r19⟩ := RdA.at_ hA (i := i) hlt
   obtain rfl := r19
   refine o_v rfl (v_idx he rfl rfl e19 (i) (by omega) hlt) ?_
   refine o_v rfl (v_ldIa he rfl c19 rfl) ?_
   refine go 1 ?_
   refine o_callV (refShort _ _) rfl rfl ?_
   refine go 3 ?_
   refine cb rfl (fun h22 p22 => ?_) (fun h22 p22 => ?_)
   ·refine go 11 ?_
    refine fin1 rfl rfl ?_
    exact q_v (congrArg Value.bool (by simp only [fewE, allP_not (f := fun _ e => shortE e) hlt (by simpa using h22), bS]))
   ·refine go 9 ?_
    exact q_next (i + 1) ⟨by omega, allP_succ hn hlt (by simpa using h22)⟩ (by omega) rfl sb rfl
  ·refine go 15 ?_
   refine fin1 rfl rfl ?_
   exact q_v (congrArg Value.bool (by rw [fewE, show decide (((l.length : Nat) : Int) ≤ n) = false from decide_eq_false (by omega)]; simp))
 ·refine go 6 ?_
  refine c_false rfl ?_
  refine go 15 ?_
  refine fin1 rfl rfl ?_
  have e : i = l.length := (by omega)
  subst e
  exact q_v (congrArg Value.bool (by simp only [fewE, hn, bS]))


end Go.Proofs.YtkmdojpfccjnoaaGreat
