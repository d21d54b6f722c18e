/- The library of a symbolic run and the walks: merged. -/
import Derived.Test.YtkmdojpfccjnoaaGreatYb
/- Walks, printed by a program out of the code of the functions: each theorem is a contract of one function. -/
namespace Go.Proofs.YtkmdojpfccjnoaaGreat
open Go Go.Sx
set_option linter.all false
set_option maxRecDepth 20000
set_option maxHeartbeats 4000000
instance T.by_37 : Has (bytesK Tryz.prog 37) ([.slice none 0 0, .bool false], 2, 32) := ⟨by kernel_rfl⟩
instance T.pl_37 : Has (plK Tryz.prog 37) [(0, 1), (1, 1)] := ⟨by kernel_rfl⟩
theorem example15 (I : IMap) :
    FnI Tryz.prog 26 #[] I (fun u J => ∃ vc v, u = .tuple #[.agg #[vc], v] ∧ RdS J vc exC ∧ RdS J v exL) := by
 refine enter Tryz.func26 Tryz.call26 rfl Tryz.ntmps26 rfl (fun w0 => ?_)
 refine go 3 ?_
 refine o_alloc he rfl (fun g0 => ?_)
 refine go 6 ?_
 refine o_val rfl (v_build (pl := [(0, 1), (1, 1), (2, 1), (3, 1), (4, 1), (5, 1), (6, 1), (7, 1), (8, 6)]) he he rfl rfl) ?_
 refine go 1 ?_
 refine o_alloc he rfl (fun g2 => ?_)
 refine go 1 ?_
 refine o_stw _ he rfl rfl rfl rfl rfl rfl ?_
 refine go 6 ?_
 refine o_alloc he rfl (fun g3 => ?_)
 refine go 1 ?_
 refine o_stw _ he rfl rfl rfl rfl rfl rfl ?_
 refine go 6 ?_
 refine o_st1 he rfl rfl rfl rfl ?_
 refine go 3 ?_
 refine bring2 ?_
 refine sx_knowI (fun hE4 hf4 => ?_)
 refine d_start1 T.mixed ?_
 refine d_tv 0 rfl rfl (by kernel_rfl) rfl (.cons _ (.refl _)) rfl (v_build (pl := [(0, 1), (1, 1), (2, 1)]) he he rfl rfl) ?_
 refine d_tv 3 rfl rfl (by kernel_rfl) rfl (.cons _ (.refl _)) rfl (v_ldw m1 he rfl rfl) ?_
 refine d_tv 4 rfl rfl (by kernel_rfl) rfl (.cons _ (.refl _)) rfl (v_ldw m0 he rfl rfl) ?_
 refine d_tv 7 rfl rfl (by kernel_rfl) rfl (.cons _ (.refl _)) rfl (v_build (pl := [(0, 1), (1, 1), (2, 1), (3, 1), (4, 1), (5, 1), (6, 1), (7, 1), (8, 6)]) he he rfl rfl) ?_
 refine d_three 1 5 8 (by kernel_rfl) rfl rfl rfl ?_ ?_ ?_
 ·refine o_buildSlice he he rfl rfl rfl rfl rfl rfl rfl (fun v8 => ?_)
  refine sx_pubrow (l := exC) rfl rfl (.one ⟨_, rfl, RdS.nil'⟩) (fun I8 j8 R8 => ?_)
  try have R8 := R8.le j8
  try have R12 := R12.le j8
  try have R15 := R15.le j8
  try have R17 := R17.le j8
  have R8s := R8
  obtain ⟨A8, c8, rfl, _⟩ := R8s
  refine d_on (fun _ m => m.keepsI (.cons _ (.refl _)) (j8) hE4 hf4) ?_
  refine d_t 2 rfl rfl (by kernel_rfl) rfl (fun _ m => m.keepsI (.cons _ (.refl _)) (j8) hE4 hf4) (y_v rfl (v_build (pl := [(0, 1)]) he he rfl rfl)) ?_
  refine d_three 5 8 11 (by kernel_rfl) rfl rfl rfl ?_ ?_ ?_
  ·refine o_buildSlice he he rfl rfl rfl rfl rfl rfl rfl (fun v12 => ?_)
   refine sx_pubrow (l := [exMade, exLater]) rfl rfl (.cons rfl (.one rfl)) (fun I12 j12 R12 => ?_)
   try have R8 := R8.le j12
   try have R12 := R12.le j12
   try have R15 := R15.le j12
   have R12s := R12
   obtain ⟨A12, c12, rfl, _⟩ := R12s
   refine d_on (fun _ m => m.keepsI (.cons _ (.refl _)) ((j8).trans j12) hE4 hf4) ?_
   refine d_t 6 rfl rfl (by kernel_rfl) rfl (fun _ m => m.keepsI (.cons _ (.refl _)) ((j8).trans j12) hE4 hf4) (y_v rfl (v_build (pl := [(0, 1), (1, 1)]) he he rfl rfl)) ?_
   refine d_two 8 11 (by kernel_rfl) rfl rfl ?_ ?_
   ·refine o_buildSlice he he rfl rfl rfl rfl rfl rfl rfl (fun v15 => ?_)
    refine sx_pubrow (l := [exScrap]) rfl rfl (.one rfl) (fun I15 j15 R15 => ?_)
    try have R8 := R8.le j15
    try have R12 := R12.le j15
    try have R15 := R15.le j15
    have R15s := R15
    obtain ⟨A15, c15, rfl, _⟩ := R15s
    refine d_on (fun _ m => m.keepsI (.cons _ (.refl _)) (((j8).trans j12).trans j15) hE4 hf4) ?_
    refine d_t 9 rfl rfl (by kernel_rfl) rfl (fun _ m => m.keepsI (.cons _ (.refl _)) (((j8).trans j12).trans j15) hE4 hf4) (y_v rfl (v_build (pl := [(0, 1), (1, 1)]) he he rfl rfl)) ?_
    refine d_two 10 11 (by kernel_rfl) rfl rfl ?_ ?_
    ·refine o_buildSlice he he rfl rfl rfl rfl rfl rfl rfl (fun v17 => ?_)
     refine sx_pubrow (l := exL) rfl rfl (.cons ⟨_, rfl, R12⟩ (.one ⟨_, rfl, R15⟩)) (fun I17 j17 R17 => ?_)
     try have R8 := R8.le j17
     refine d_on (fun _ m => m.keepsI (.cons _ (.refl _)) ((((j8).trans j12).trans j15).trans j17) hE4 hf4) ?_
     refine d_one 11 (by kernel_rfl) rfl ?_
     refine o_stw _ he rfl rfl rfl rfl rfl rfl ?_
     refine d_on (fun _ m => m.keepsI (.cons _ (.refl _)) ((((j8).trans j12).trans j15).trans j17) hE4 hf4) ?_
     refine d_t 12 rfl rfl (by kernel_rfl) rfl (fun _ m => m.keepsI (.cons _ (.refl _)) ((((j8).trans j12).trans j15).trans j17) hE4 hf4) (y_v rfl (v_assign rfl)) ?_
     refine d_done (by kernel_rfl) ?_
     refine go 2 ?_
     refine fin2 rfl ⟨_, _, _, rfl, m0, .inr ⟨_, he, rfl, rfl⟩⟩ rfl ?_
     exact q_i ⟨_, _, rfl, R8, R17⟩
    ·refine o_stw _ he rfl rfl rfl rfl rfl rfl ?_
     refine d_on (fun _ m => m.keepsI (.cons _ (.refl _)) (((j8).trans j12).trans j15) hE4 hf4) ?_
     refine d_one 10 (by kernel_rfl) rfl ?_
     refine o_buildSlice he he rfl rfl rfl rfl rfl rfl rfl (fun v17 => ?_)
     refine sx_pubrow (l := exL) rfl rfl (.cons ⟨_, rfl, R12⟩ (.one ⟨_, rfl, R15⟩)) (fun I17 j17 R17 => ?_)
     try have R8 := R8.le j17
     refine d_on (fun _ m => m.keepsI (.cons _ (.refl _)) ((((j8).trans j12).trans j15).trans j17) hE4 hf4) ?_
     refine d_t 12 rfl rfl (by kernel_rfl) rfl (fun _ m => m.keepsI (.cons _ (.refl _)) ((((j8).trans j12).trans j15).trans j17) hE4 hf4) (y_v rfl (v_assign rfl)) ?_
     refine d_done (by kernel_rfl) ?_
     refine go 2 ?_
     refine fin2 rfl ⟨_, _, _, rfl, m0, .inr ⟨_, he, rfl, rfl⟩⟩ rfl ?_
     exact q_i ⟨_, _, rfl, R8, R17⟩
   ·refine o_stw _ he rfl rfl rfl rfl rfl rfl ?_
    refine d_on (fun _ m => m.keepsI (.cons _ (.refl _)) ((j8).trans j12) hE4 hf4) ?_
    refine d_one 8 (by kernel_rfl) rfl ?_
    refine o_buildSlice he he rfl rfl rfl rfl rfl rfl rfl (fun v15 => ?_)
    refine sx_pubrow (l := [exScrap]) rfl rfl (.one rfl) (fun I15 j15 R15 => ?_)
    try have R8 := R8.le j15
    try have R12 := R12.le j15
    try have R15 := R15.le j15
    have R15s := R15
    obtain ⟨A15, c15, rfl, _⟩ := R15s
    refine d_on (fun _ m => m.keepsI (.cons _ (.refl _)) (((j8).trans j12).trans j15) hE4 hf4) ?_
    refine d_t 9 rfl rfl (by kernel_rfl) rfl (fun _ m => m.keepsI (.cons _ (.refl _)) (((j8).trans j12).trans j15) hE4 hf4) (y_v rfl (v_build (pl := [(0, 1), (1, 1)]) he he rfl rfl)) ?_
    refine d_one 10 (by kernel_rfl) rfl ?_
    refine o_buildSlice he he rfl rfl rfl rfl rfl rfl rfl (fun v17 => ?_)
    refine sx_pubrow (l := exL) rfl rfl (.cons ⟨_, rfl, R12⟩ (.one ⟨_, rfl, R15⟩)) (fun I17 j17 R17 => ?_)
    try have R8 := R8.le j17
    refine d_on (fun _ m => m.keepsI (.cons _ (.refl _)) ((((j8).trans j12).trans j15).trans j17) hE4 hf4) ?_
    refine d_t 12 rfl rfl (by kernel_rfl) rfl (fun _ m => m.keepsI (.cons _ (.refl _)) ((((j8).trans j12).trans j15).trans j17) hE4 hf4) (y_v rfl (v_assign rfl)) ?_
    refine d_done (by kernel_rfl) ?_
    refine go 2 ?_
    refine fin2 rfl ⟨_, _, _, rfl, m0, .inr ⟨_, he, rfl, rfl⟩⟩ rfl ?_
    exact q_i ⟨_, _, rfl, R8, R17⟩
  ·refine o_buildSlice he he rfl rfl rfl rfl rfl rfl rfl (fun v15 => ?_)
   refine sx_pubrow (l := [exScrap]) rfl rfl (.one rfl) (fun I15 j15 R15 => ?_)
   try have R8 := R8.le j15
   try have R12 := R12.le j15
   try have R15 := R15.le j15
   have R15s := R15
   obtain ⟨A15, c15, rfl, _⟩ := R15s
   refine d_on (fun _ m => m.keepsI (.cons _ (.refl _)) ((j8).trans j15) hE4 hf4) ?_
   refine d_t 9 rfl rfl (by kernel_rfl) rfl (fun _ m => m.keepsI (.cons _ (.refl _)) ((j8).trans j15) hE4 hf4) (y_v rfl (v_build (pl := [(0, 1), (1, 1)]) he he rfl rfl)) ?_
   refine d_two 5 11 (by kernel_rfl) rfl rfl ?_ ?_
   ·refine o_buildSlice he he rfl rfl rfl rfl rfl rfl rfl (fun v12 => ?_)
    refine sx_pubrow (l := [exMade, exLater]) rfl rfl (.cons rfl (.one rfl)) (fun I12 j12 R12 => ?_)
    try have R8 := R8.le j12
    try have R12 := R12.le j12
    try have R15 := R15.le j12
    have R12s := R12
    obtain ⟨A12, c12, rfl, _⟩ := R12s
    refine d_on (fun _ m => m.keepsI (.cons _ (.refl _)) (((j8).trans j15).trans j12) hE4 hf4) ?_
    refine d_t 6 rfl rfl (by kernel_rfl) rfl (fun _ m => m.keepsI (.cons _ (.refl _)) (((j8).trans j15).trans j12) hE4 hf4) (y_v rfl (v_build (pl := [(0, 1), (1, 1)]) he he rfl rfl)) ?_
    refine d_two 10 11 (by kernel_rfl) rfl rfl ?_ ?_
    ·refine o_buildSlice he he rfl rfl rfl rfl rfl rfl rfl (fun v17 => ?_)
     refine sx_pubrow (l := exL) rfl rfl (.cons ⟨_, rfl, R12⟩ (.one ⟨_, rfl, R15⟩)) (fun I17 j17 R17 => ?_)
     try have R8 := R8.le j17
     refine d_on (fun _ m => m.keepsI (.cons _ (.refl _)) ((((j8).trans j15).trans j12).trans j17) hE4 hf4) ?_
     refine d_one 11 (by kernel_rfl) rfl ?_
     refine o_stw _ he rfl rfl rfl rfl rfl rfl ?_
     refine d_on (fun _ m => m.keepsI (.cons _ (.refl _)) ((((j8).trans j15).trans j12).trans j17) hE4 hf4) ?_
     refine d_t 12 rfl rfl (by kernel_rfl) rfl (fun _ m => m.keepsI (.cons _ (.refl _)) ((((j8).trans j15).trans j12).trans j17) hE4 hf4) (y_v rfl (v_assign rfl)) ?_
     refine d_done (by kernel_rfl) ?_
     refine go 2 ?_
     refine fin2 rfl ⟨_, _, _, rfl, m0, .inr ⟨_, he, rfl, rfl⟩⟩ rfl ?_
     exact q_i ⟨_, _, rfl, R8, R17⟩
    ·refine o_stw _ he rfl rfl rfl rfl rfl rfl ?_
     refine d_on (fun _ m => m.keepsI (.cons _ (.refl _)) (((j8).trans j15).trans j12) hE4 hf4) ?_
     refine d_one 10 (by kernel_rfl) rfl ?_
     refine o_buildSlice he he rfl rfl rfl rfl rfl rfl rfl (fun v17 => ?_)
     refine sx_pubrow (l := exL) rfl rfl (.cons ⟨_, rfl, R12⟩ (.one ⟨_, rfl, R15⟩)) (fun I17 j17 R17 => ?_)
     try have R8 := R8.le j17
     refine d_on (fun _ m => m.keepsI (.cons _ (.refl _)) ((((j8).trans j15).trans j12).trans j17) hE4 hf4) ?_
     refine d_t 12 rfl rfl (by kernel_rfl) rfl (fun _ m => m.keepsI (.cons _ (.refl _)) ((((j8).trans j15).trans j12).trans j17) hE4 hf4) (y_v rfl (v_assign rfl)) ?_
     refine d_done (by kernel_rfl) ?_
     refine go 2 ?_
     refine fin2 rfl ⟨_, _, _, rfl, m0, .inr ⟨_, he, rfl, rfl⟩⟩ rfl ?_
     exact q_i ⟨_, _, rfl, R8, R17⟩
   ·refine o_stw _ he rfl rfl rfl rfl rfl rfl ?_
    refine d_on (fun _ m => m.keepsI (.cons _ (.refl _)) ((j8).trans j15) hE4 hf4) ?_
    refine d_one 5 (by kernel_rfl) rfl ?_
    refine o_buildSlice he he rfl rfl rfl rfl rfl rfl rfl (fun v12 => ?_)
    refine sx_pubrow (l := [exMade, exLater]) rfl rfl (.cons rfl (.one rfl)) (fun I12 j12 R12 => ?_)
    try have R8 := R8.le j12
    try have R12 := R12.le j12
    try have R15 := R15.le j12
    have R12s := R12
    obtain ⟨A12, c12, rfl, _⟩ := R12s
    refine d_on (fun _ m => m.keepsI (.cons _ (.refl _)) (((j8).trans j15).trans j12) hE4 hf4) ?_
    refine d_t 6 rfl rfl (by kernel_rfl) rfl (fun _ m => m.keepsI (.cons _ (.refl _)) (((j8).trans j15).trans j12) hE4 hf4) (y_v rfl (v_build (pl := [(0, 1), (1, 1)]) he he rfl rfl)) ?_
    refine d_one 10 (by kernel_rfl) rfl ?_
    refine o_buildSlice he he rfl rfl rfl rfl rfl rfl rfl (fun v17 => ?_)
    refine sx_pubrow (l := exL) rfl rfl (.cons ⟨_, rfl, R12⟩ (.one ⟨_, rfl, R15⟩)) (fun I17 j17 R17 => ?_)
    try have R8 := R8.le j17
    refine d_on (fun _ m => m.keepsI (.cons _ (.refl _)) ((((j8).trans j15).trans j12).trans j17) hE4 hf4) ?_
    refine d_t 12 rfl rfl (by kernel_rfl) rfl (fun _ m => m.keepsI (.cons _ (.refl _)) ((((j8).trans j15).trans j12).trans j17) hE4 hf4) (y_v rfl (v_assign rfl)) ?_
    refine d_done (by kernel_rfl) ?_
    refine go 2 ?_
    refine fin2 rfl ⟨_, _, _, rfl, m0, .inr ⟨_, he, rfl, rfl⟩⟩ rfl ?_
    exact q_i ⟨_, _, rfl, R8, R17⟩
  ·refine o_stw _ he rfl rfl rfl rfl rfl rfl ?_
   refine d_on (fun _ m => m.keepsI (.cons _ (.refl _)) (j8) hE4 hf4) ?_
   refine d_two 5 8 (by kernel_rfl) rfl rfl ?_ ?_
   ·refine o_buildSlice he he rfl rfl rfl rfl rfl rfl rfl (fun v12 => ?_)
    refine sx_pubrow (l := [exMade, exLater]) rfl rfl (.cons rfl (.one rfl)) (fun I12 j12 R12 => ?_)
    try have R8 := R8.le j12
    try have R12 := R12.le j12
    try have R15 := R15.le j12
    have R12s := R12
    obtain ⟨A12, c12, rfl, _⟩ := R12s
    refine d_on (fun _ m => m.keepsI (.cons _ (.refl _)) ((j8).trans j12) hE4 hf4) ?_
    refine d_t 6 rfl rfl (by kernel_rfl) rfl (fun _ m => m.keepsI (.cons _ (.refl _)) ((j8).trans j12) hE4 hf4) (y_v rfl (v_build (pl := [(0, 1), (1, 1)]) he he rfl rfl)) ?_
    refine d_one 8 (by kernel_rfl) rfl ?_
    refine o_buildSlice he he rfl rfl rfl rfl rfl rfl rfl (fun v15 => ?_)
    refine sx_pubrow (l := [exScrap]) rfl rfl (.one rfl) (fun I15 j15 R15 => ?_)
    try have R8 := R8.le j15
    try have R12 := R12.le j15
    try have R15 := R15.le j15
    have R15s := R15
    obtain ⟨A15, c15, rfl, _⟩ := R15s
    refine d_on (fun _ m => m.keepsI (.cons _ (.refl _)) (((j8).trans j12).trans j15) hE4 hf4) ?_
    refine d_t 9 rfl rfl (by kernel_rfl) rfl (fun _ m => m.keepsI (.cons _ (.refl _)) (((j8).trans j12).trans j15) hE4 hf4) (y_v rfl (v_build (pl := [(0, 1), (1, 1)]) he he rfl rfl)) ?_
    refine d_one 10 (by kernel_rfl) rfl ?_
    refine o_buildSlice he he rfl rfl rfl rfl rfl rfl rfl (fun v17 => ?_)
    refine sx_pubrow (l := exL) rfl rfl (.cons ⟨_, rfl, R12⟩ (.one ⟨_, rfl, R15⟩)) (fun I17 j17 R17 => ?_)
    try have R8 := R8.le j17
    refine d_on (fun _ m => m.keepsI (.cons _ (.refl _)) ((((j8).trans j12).trans j15).trans j17) hE4 hf4) ?_
    refine d_t 12 rfl rfl (by kernel_rfl) rfl (fun _ m => m.keepsI (.cons _ (.refl _)) ((((j8).trans j12).trans j15).trans j17) hE4 hf4) (y_v rfl (v_assign rfl)) ?_
    refine d_done (by kernel_rfl) ?_
    refine go 2 ?_
    refine fin2 rfl ⟨_, _, _, rfl, m0, .inr ⟨_, he, rfl, rfl⟩⟩ rfl ?_
    exact q_i ⟨_, _, rfl, R8, R17⟩
   ·refine o_buildSlice he he rfl rfl rfl rfl rfl rfl rfl (fun v15 => ?_)
    refine sx_pubrow (l := [exScrap]) rfl rfl (.one rfl) (fun I15 j15 R15 => ?_)
    try have R8 := R8.le j15
    try have R12 := R12.le j15
    try have R15 := R15.le j15
    have R15s := R15
    obtain ⟨A15, c15, rfl, _⟩ := R15s
    refine d_on (fun _ m => m.keepsI (.cons _ (.refl _)) ((j8).trans j15) hE4 hf4) ?_
    refine d_t 9 rfl rfl (by kernel_rfl) rfl (fun _ m => m.keepsI (.cons _ (.refl _)) ((j8).trans j15) hE4 hf4) (y_v rfl (v_build (pl := [(0, 1), (1, 1)]) he he rfl rfl)) ?_
    refine d_one 5 (by kernel_rfl) rfl ?_
    refine o_buildSlice he he rfl rfl rfl rfl rfl rfl rfl (fun v12 => ?_)
    refine sx_pubrow (l := [exMade, exLater]) rfl rfl (.cons rfl (.one rfl)) (fun I12 j12 R12 => ?_)
    try have R8 := R8.le j12
    try have R12 := R12.le j12
    try have R15 := R15.le j12
    have R12s := R12
    obtain ⟨A12, c12, rfl, _⟩ := R12s
    refine d_on (fun _ m => m.keepsI (.cons _ (.refl _)) (((j8).trans j15).trans j12) hE4 hf4) ?_
    refine d_t 6 rfl rfl (by kernel_rfl) rfl (fun _ m => m.keepsI (.cons _ (.refl _)) (((j8).trans j15).trans j12) hE4 hf4) (y_v rfl (v_build (pl := [(0, 1), (1, 1)]) he he rfl rfl)) ?_
    refine d_one 10 (by kernel_rfl) rfl ?_
    refine o_buildSlice he he rfl rfl rfl rfl rfl rfl rfl (fun v17 => ?_)
    refine sx_pubrow (l := exL) rfl rfl (.cons ⟨_, rfl, R12⟩ (.one ⟨_, rfl, R15⟩)) (fun I17 j17 R17 => ?_)
    try have R8 := R8.le j17
    refine d_on (fun _ m => m.keepsI (.cons _ (.refl _)) ((((j8).trans j15).trans j12).trans j17) hE4 hf4) ?_
    refine d_t 12 rfl rfl (by kernel_rfl) rfl (fun _ m => m.keepsI (.cons _ (.refl _)) ((((j8).trans j15).trans j12).trans j17) hE4 hf4) (y_v rfl (v_assign rfl)) ?_
    refine d_done (by kernel_rfl) ?_
    refine go 2 ?_
    refine fin2 rfl ⟨_, _, _, rfl, m0, .inr ⟨_, he, rfl, rfl⟩⟩ rfl ?_
    exact q_i ⟨_, _, rfl, R8, R17⟩
 ·refine o_buildSlice he he rfl rfl rfl rfl rfl rfl rfl (fun v12 => ?_)
  refine sx_pubrow (l := [exMade, exLater]) rfl rfl (.cons rfl (.one rfl)) (fun I12 j12 R12 => ?_)
  try have R8 := R8.le j12
  try have R12 := R12.le j12
  try have R15 := R15.le j12
  have R12s := R12
  obtain ⟨A12, c12, rfl, _⟩ := R12s
  refine d_on (fun _ m => m.keepsI (.cons _ (.refl _)) (j12) hE4 hf4) ?_
  refine d_t 6 rfl rfl (by kernel_rfl) rfl (fun _ m => m.keepsI (.cons _ (.refl _)) (j12) hE4 hf4) (y_v rfl (v_build (pl := [(0, 1), (1, 1)]) he he rfl rfl)) ?_
  refine d_two 1 8 (by kernel_rfl) rfl rfl ?_ ?_
  ·refine o_buildSlice he he rfl rfl rfl rfl rfl rfl rfl (fun v8 => ?_)
   refine sx_pubrow (l := exC) rfl rfl (.one ⟨_, rfl, RdS.nil'⟩) (fun I8 j8 R8 => ?_)
   try have R8 := R8.le j8
   try have R12 := R12.le j8
   try have R15 := R15.le j8
   try have R17 := R17.le j8
   have R8s := R8
   obtain ⟨A8, c8, rfl, _⟩ := R8s
   refine d_on (fun _ m => m.keepsI (.cons _ (.refl _)) ((j12).trans j8) hE4 hf4) ?_
   refine d_t 2 rfl rfl (by kernel_rfl) rfl (fun _ m => m.keepsI (.cons _ (.refl _)) ((j12).trans j8) hE4 hf4) (y_v rfl (v_build (pl := [(0, 1)]) he he rfl rfl)) ?_
   refine d_two 8 11 (by kernel_rfl) rfl rfl ?_ ?_
   ·refine o_buildSlice he he rfl rfl rfl rfl rfl rfl rfl (fun v15 => ?_)
    refine sx_pubrow (l := [exScrap]) rfl rfl (.one rfl) (fun I15 j15 R15 => ?_)
    try have R8 := R8.le j15
    try have R12 := R12.le j15
    try have R15 := R15.le j15
    have R15s := R15
    obtain ⟨A15, c15, rfl, _⟩ := R15s
    refine d_on (fun _ m => m.keepsI (.cons _ (.refl _)) (((j12).trans j8).trans j15) hE4 hf4) ?_
    refine d_t 9 rfl rfl (by kernel_rfl) rfl (fun _ m => m.keepsI (.cons _ (.refl _)) (((j12).trans j8).trans j15) hE4 hf4) (y_v rfl (v_build (pl := [(0, 1), (1, 1)]) he he rfl rfl)) ?_
    refine d_two 10 11 (by kernel_rfl) rfl rfl ?_ ?_
    ·refine o_buildSlice he he rfl rfl rfl rfl rfl rfl rfl (fun v17 => ?_)
     refine sx_pubrow (l := exL) rfl rfl (.cons ⟨_, rfl, R12⟩ (.one ⟨_, rfl, R15⟩)) (fun I17 j17 R17 => ?_)
     try have R8 := R8.le j17
     refine d_on (fun _ m => m.keepsI (.cons _ (.refl _)) ((((j12).trans j8).trans j15).trans j17) hE4 hf4) ?_
     refine d_one 11 (by kernel_rfl) rfl ?_
     refine o_stw _ he rfl rfl rfl rfl rfl rfl ?_
     refine d_on (fun _ m => m.keepsI (.cons _ (.refl _)) ((((j12).trans j8).trans j15).trans j17) hE4 hf4) ?_
     refine d_t 12 rfl rfl (by kernel_rfl) rfl (fun _ m => m.keepsI (.cons _ (.refl _)) ((((j12).trans j8).trans j15).trans j17) hE4 hf4) (y_v rfl (v_assign rfl)) ?_
     refine d_done (by kernel_rfl) ?_
     refine go 2 ?_
     refine fin2 rfl ⟨_, _, _, rfl, m0, .inr ⟨_, he, rfl, rfl⟩⟩ rfl ?_
     exact q_i ⟨_, _, rfl, R8, R17⟩
    ·refine o_stw _ he rfl rfl rfl rfl rfl rfl ?_
     refine d_on (fun _ m => m.keepsI (.cons _ (.refl _)) (((j12).trans j8).trans j15) hE4 hf4) ?_
     refine d_one 10 (by kernel_rfl) rfl ?_
     refine o_buildSlice he he rfl rfl rfl rfl rfl rfl rfl (fun v17 => ?_)
     refine sx_pubrow (l := exL) rfl rfl (.cons ⟨_, rfl, R12⟩ (.one ⟨_, rfl, R15⟩)) (fun I17 j17 R17 => ?_)
     try have R8 := R8.le j17
     refine d_on (fun _ m => m.keepsI (.cons _ (.refl _)) ((((j12).trans j8).trans j15).trans j17) hE4 hf4) ?_
     refine d_t 12 rfl rfl (by kernel_rfl) rfl (fun _ m => m.keepsI (.cons _ (.refl _)) ((((j12).trans j8).trans j15).trans j17) hE4 hf4) (y_v rfl (v_assign rfl)) ?_
     refine d_done (by kernel_rfl) ?_
     refine go 2 ?_
     refine fin2 rfl ⟨_, _, _, rfl, m0, .inr ⟨_, he, rfl, rfl⟩⟩ rfl ?_
     exact q_i ⟨_, _, rfl, R8, R17⟩
   ·refine o_stw _ he rfl rfl rfl rfl rfl rfl ?_
    refine d_on (fun _ m => m.keepsI (.cons _ (.refl _)) ((j12).trans j8) hE4 hf4) ?_
    refine d_one 8 (by kernel_rfl) rfl ?_
    refine o_buildSlice he he rfl rfl rfl rfl rfl rfl rfl (fun v15 => ?_)
    refine sx_pubrow (l := [exScrap]) rfl rfl (.one rfl) (fun I15 j15 R15 => ?_)
    try have R8 := R8.le j15
    try have R12 := R12.le j15
    try have R15 := R15.le j15
    have R15s := R15
    obtain ⟨A15, c15, rfl, _⟩ := R15s
    refine d_on (fun _ m => m.keepsI (.cons _ (.refl _)) (((j12).trans j8).trans j15) hE4 hf4) ?_
    refine d_t 9 rfl rfl (by kernel_rfl) rfl (fun _ m => m.keepsI (.cons _ (.refl _)) (((j12).trans j8).trans j15) hE4 hf4) (y_v rfl (v_build (pl := [(0, 1), (1, 1)]) he he rfl rfl)) ?_
    refine d_one 10 (by kernel_rfl) rfl ?_
    refine o_buildSlice he he rfl rfl rfl rfl rfl rfl rfl (fun v17 => ?_)
    refine sx_pubrow (l := exL) rfl rfl (.cons ⟨_, rfl, R12⟩ (.one ⟨_, rfl, R15⟩)) (fun I17 j17 R17 => ?_)
    try have R8 := R8.le j17
    refine d_on (fun _ m => m.keepsI (.cons _ (.refl _)) ((((j12).trans j8).trans j15).trans j17) hE4 hf4) ?_
    refine d_t 12 rfl rfl (by kernel_rfl) rfl (fun _ m => m.keepsI (.cons _ (.refl _)) ((((j12).trans j8).trans j15).trans j17) hE4 hf4) (y_v rfl (v_assign rfl)) ?_
    refine d_done (by kernel_rfl) ?_
    refine go 2 ?_
    refine fin2 rfl ⟨_, _, _, rfl, m0, .inr ⟨_, he, rfl, rfl⟩⟩ rfl ?_
    exact q_i ⟨_, _, rfl, R8, R17⟩
  ·refine o_buildSlice he he rfl rfl rfl rfl rfl rfl rfl (fun v15 => ?_)
   refine sx_pubrow (l := [exScrap]) rfl rfl (.one rfl) (fun I15 j15 R15 => ?_)
   try have R8 := R8.le j15
   try have R12 := R12.le j15
   try have R15 := R15.le j15
   have R15s := R15
   obtain ⟨A15, c15, rfl, _⟩ := R15s
   refine d_on (fun _ m => m.keepsI (.cons _ (.refl _)) ((j12).trans j15) hE4 hf4) ?_
   refine d_t 9 rfl rfl (by kernel_rfl) rfl (fun _ m => m.keepsI (.cons _ (.refl _)) ((j12).trans j15) hE4 hf4) (y_v rfl (v_build (pl := [(0, 1), (1, 1)]) he he rfl rfl)) ?_
   refine d_two 1 10 (by kernel_rfl) rfl rfl ?_ ?_
   ·refine o_buildSlice he he rfl rfl rfl rfl rfl rfl rfl (fun v8 => ?_)
    refine sx_pubrow (l := exC) rfl rfl (.one ⟨_, rfl, RdS.nil'⟩) (fun I8 j8 R8 => ?_)
    try have R8 := R8.le j8
    try have R12 := R12.le j8
    try have R15 := R15.le j8
    try have R17 := R17.le j8
    have R8s := R8
    obtain ⟨A8, c8, rfl, _⟩ := R8s
    refine d_on (fun _ m => m.keepsI (.cons _ (.refl _)) (((j12).trans j15).trans j8) hE4 hf4) ?_
    refine d_t 2 rfl rfl (by kernel_rfl) rfl (fun _ m => m.keepsI (.cons _ (.refl _)) (((j12).trans j15).trans j8) hE4 hf4) (y_v rfl (v_build (pl := [(0, 1)]) he he rfl rfl)) ?_
    refine d_two 10 11 (by kernel_rfl) rfl rfl ?_ ?_
    ·refine o_buildSlice he he rfl rfl rfl rfl rfl rfl rfl (fun v17 => ?_)
     refine sx_pubrow (l := exL) rfl rfl (.cons ⟨_, rfl, R12⟩ (.one ⟨_, rfl, R15⟩)) (fun I17 j17 R17 => ?_)
     try have R8 := R8.le j17
     refine d_on (fun _ m => m.keepsI (.cons _ (.refl _)) ((((j12).trans j15).trans j8).trans j17) hE4 hf4) ?_
     refine d_one 11 (by kernel_rfl) rfl ?_
     refine o_stw _ he rfl rfl rfl rfl rfl rfl ?_
     refine d_on (fun _ m => m.keepsI (.cons _ (.refl _)) ((((j12).trans j15).trans j8).trans j17) hE4 hf4) ?_
     refine d_t 12 rfl rfl (by kernel_rfl) rfl (fun _ m => m.keepsI (.cons _ (.refl _)) ((((j12).trans j15).trans j8).trans j17) hE4 hf4) (y_v rfl (v_assign rfl)) ?_
     refine d_done (by kernel_rfl) ?_
     refine go 2 ?_
     refine fin2 rfl ⟨_, _, _, rfl, m0, .inr ⟨_, he, rfl, rfl⟩⟩ rfl ?_
     exact q_i ⟨_, _, rfl, R8, R17⟩
    ·refine o_stw _ he rfl rfl rfl rfl rfl rfl ?_
     refine d_on (fun _ m => m.keepsI (.cons _ (.refl _)) (((j12).trans j15).trans j8) hE4 hf4) ?_
     refine d_one 10 (by kernel_rfl) rfl ?_
     refine o_buildSlice he he rfl rfl rfl rfl rfl rfl rfl (fun v17 => ?_)
     refine sx_pubrow (l := exL) rfl rfl (.cons ⟨_, rfl, R12⟩ (.one ⟨_, rfl, R15⟩)) (fun I17 j17 R17 => ?_)
     try have R8 := R8.le j17
     refine d_on (fun _ m => m.keepsI (.cons _ (.refl _)) ((((j12).trans j15).trans j8).trans j17) hE4 hf4) ?_
     refine d_t 12 rfl rfl (by kernel_rfl) rfl (fun _ m => m.keepsI (.cons _ (.refl _)) ((((j12).trans j15).trans j8).trans j17) hE4 hf4) (y_v rfl (v_assign rfl)) ?_
     refine d_done (by kernel_rfl) ?_
     refine go 2 ?_
     refine fin2 rfl ⟨_, _, _, rfl, m0, .inr ⟨_, he, rfl, rfl⟩⟩ rfl ?_
     exact q_i ⟨_, _, rfl, R8, R17⟩
   ·refine o_buildSlice he he rfl rfl rfl rfl rfl rfl rfl (fun v17 => ?_)
    refine sx_pubrow (l := exL) rfl rfl (.cons ⟨_, rfl, R12⟩ (.one ⟨_, rfl, R15⟩)) (fun I17 j17 R17 => ?_)
    try have R8 := R8.le j17
    refine d_on (fun _ m => m.keepsI (.cons _ (.refl _)) (((j12).trans j15).trans j17) hE4 hf4) ?_
    refine d_one 1 (by kernel_rfl) rfl ?_
    refine o_buildSlice he he rfl rfl rfl rfl rfl rfl rfl (fun v8 => ?_)
    refine sx_pubrow (l := exC) rfl rfl (.one ⟨_, rfl, RdS.nil'⟩) (fun I8 j8 R8 => ?_)
    try have R8 := R8.le j8
    try have R12 := R12.le j8
    try have R15 := R15.le j8
    try have R17 := R17.le j8
    have R8s := R8
    obtain ⟨A8, c8, rfl, _⟩ := R8s
    refine d_on (fun _ m => m.keepsI (.cons _ (.refl _)) ((((j12).trans j15).trans j17).trans j8) hE4 hf4) ?_
    refine d_t 2 rfl rfl (by kernel_rfl) rfl (fun _ m => m.keepsI (.cons _ (.refl _)) ((((j12).trans j15).trans j17).trans j8) hE4 hf4) (y_v rfl (v_build (pl := [(0, 1)]) he he rfl rfl)) ?_
    refine d_one 11 (by kernel_rfl) rfl ?_
    refine o_stw _ he rfl rfl rfl rfl rfl rfl ?_
    refine d_on (fun _ m => m.keepsI (.cons _ (.refl _)) ((((j12).trans j15).trans j17).trans j8) hE4 hf4) ?_
    refine d_t 12 rfl rfl (by kernel_rfl) rfl (fun _ m => m.keepsI (.cons _ (.refl _)) ((((j12).trans j15).trans j17).trans j8) hE4 hf4) (y_v rfl (v_assign rfl)) ?_
    refine d_done (by kernel_rfl) ?_
    refine go 2 ?_
    refine fin2 rfl ⟨_, _, _, rfl, m0, .inr ⟨_, he, rfl, rfl⟩⟩ rfl ?_
    exact q_i ⟨_, _, rfl, R8, R17⟩
 ·refine o_buildSlice he he rfl rfl rfl rfl rfl rfl rfl (fun v15 => ?_)
  refine sx_pubrow (l := [exScrap]) rfl rfl (.one rfl) (fun I15 j15 R15 => ?_)
  try have R8 := R8.le j15
  try have R12 := R12.le j15
  try have R15 := R15.le j15
  have R15s := R15
  obtain ⟨A15, c15, rfl, _⟩ := R15s
  refine d_on (fun _ m => m.keepsI (.cons _ (.refl _)) (j15) hE4 hf4) ?_
  refine d_t 9 rfl rfl (by kernel_rfl) rfl (fun _ m => m.keepsI (.cons _ (.refl _)) (j15) hE4 hf4) (y_v rfl (v_build (pl := [(0, 1), (1, 1)]) he he rfl rfl)) ?_
  refine d_two 1 5 (by kernel_rfl) rfl rfl ?_ ?_
  ·refine o_buildSlice he he rfl rfl rfl rfl rfl rfl rfl (fun v8 => ?_)
   refine sx_pubrow (l := exC) rfl rfl (.one ⟨_, rfl, RdS.nil'⟩) (fun I8 j8 R8 => ?_)
   try have R8 := R8.le j8
   try have R12 := R12.le j8
   try have R15 := R15.le j8
   try have R17 := R17.le j8
   have R8s := R8
   obtain ⟨A8, c8, rfl, _⟩ := R8s
   refine d_on (fun _ m => m.keepsI (.cons _ (.refl _)) ((j15).trans j8) hE4 hf4) ?_
   refine d_t 2 rfl rfl (by kernel_rfl) rfl (fun _ m => m.keepsI (.cons _ (.refl _)) ((j15).trans j8) hE4 hf4) (y_v rfl (v_build (pl := [(0, 1)]) he he rfl rfl)) ?_
   refine d_two 5 11 (by kernel_rfl) rfl rfl ?_ ?_
   ·refine o_buildSlice he he rfl rfl rfl rfl rfl rfl rfl (fun v12 => ?_)
    refine sx_pubrow (l := [exMade, exLater]) rfl rfl (.cons rfl (.one rfl)) (fun I12 j12 R12 => ?_)
    try have R8 := R8.le j12
    try have R12 := R12.le j12
    try have R15 := R15.le j12
    have R12s := R12
    obtain ⟨A12, c12, rfl, _⟩ := R12s
    refine d_on (fun _ m => m.keepsI (.cons _ (.refl _)) (((j15).trans j8).trans j12) hE4 hf4) ?_
    refine d_t 6 rfl rfl (by kernel_rfl) rfl (fun _ m => m.keepsI (.cons _ (.refl _)) (((j15).trans j8).trans j12) hE4 hf4) (y_v rfl (v_build (pl := [(0, 1), (1, 1)]) he he rfl rfl)) ?_
    refine d_two 10 11 (by kernel_rfl) rfl rfl ?_ ?_
    ·refine o_buildSlice he he rfl rfl rfl rfl rfl rfl rfl (fun v17 => ?_)
     refine sx_pubrow (l := exL) rfl rfl (.cons ⟨_, rfl, R12⟩ (.one ⟨_, rfl, R15⟩)) (fun I17 j17 R17 => ?_)
     try have R8 := R8.le j17
     refine d_on (fun _ m => m.keepsI (.cons _ (.refl _)) ((((j15).trans j8).trans j12).trans j17) hE4 hf4) ?_
     refine d_one 11 (by kernel_rfl) rfl ?_
     refine o_stw _ he rfl rfl rfl rfl rfl rfl ?_
     refine d_on (fun _ m => m.keepsI (.cons _ (.refl _)) ((((j15).trans j8).trans j12).trans j17) hE4 hf4) ?_
     refine d_t 12 rfl rfl (by kernel_rfl) rfl (fun _ m => m.keepsI (.cons _ (.refl _)) ((((j15).trans j8).trans j12).trans j17) hE4 hf4) (y_v rfl (v_assign rfl)) ?_
     refine d_done (by kernel_rfl) ?_
     refine go 2 ?_
     refine fin2 rfl ⟨_, _, _, rfl, m0, .inr ⟨_, he, rfl, rfl⟩⟩ rfl ?_
     exact q_i ⟨_, _, rfl, R8, R17⟩
    ·refine o_stw _ he rfl rfl rfl rfl rfl rfl ?_
     refine d_on (fun _ m => m.keepsI (.cons _ (.refl _)) (((j15).trans j8).trans j12) hE4 hf4) ?_
     refine d_one 10 (by kernel_rfl) rfl ?_
     refine o_buildSlice he he rfl rfl rfl rfl rfl rfl rfl (fun v17 => ?_)
     refine sx_pubrow (l := exL) rfl rfl (.cons ⟨_, rfl, R12⟩ (.one ⟨_, rfl, R15⟩)) (fun I17 j17 R17 => ?_)
     try have R8 := R8.le j17
     refine d_on (fun _ m => m.keepsI (.cons _ (.refl _)) ((((j15).trans j8).trans j12).trans j17) hE4 hf4) ?_
     refine d_t 12 rfl rfl (by kernel_rfl) rfl (fun _ m => m.keepsI (.cons _ (.refl _)) ((((j15).trans j8).trans j12).trans j17) hE4 hf4) (y_v rfl (v_assign rfl)) ?_
     refine d_done (by kernel_rfl) ?_
     refine go 2 ?_
     refine fin2 rfl ⟨_, _, _, rfl, m0, .inr ⟨_, he, rfl, rfl⟩⟩ rfl ?_
     exact q_i ⟨_, _, rfl, R8, R17⟩
   ·refine o_stw _ he rfl rfl rfl rfl rfl rfl ?_
    refine d_on (fun _ m => m.keepsI (.cons _ (.refl _)) ((j15).trans j8) hE4 hf4) ?_
    refine d_one 5 (by kernel_rfl) rfl ?_
    refine o_buildSlice he he rfl rfl rfl rfl rfl rfl rfl (fun v12 => ?_)
    refine sx_pubrow (l := [exMade, exLater]) rfl rfl (.cons rfl (.one rfl)) (fun I12 j12 R12 => ?_)
    try have R8 := R8.le j12
    try have R12 := R12.le j12
    try have R15 := R15.le j12
    have R12s := R12
    obtain ⟨A12, c12, rfl, _⟩ := R12s
    refine d_on (fun _ m => m.keepsI (.cons _ (.refl _)) (((j15).trans j8).trans j12) hE4 hf4) ?_
    refine d_t 6 rfl rfl (by kernel_rfl) rfl (fun _ m => m.keepsI (.cons _ (.refl _)) (((j15).trans j8).trans j12) hE4 hf4) (y_v rfl (v_build (pl := [(0, 1), (1, 1)]) he he rfl rfl)) ?_
    refine d_one 10 (by kernel_rfl) rfl ?_
    refine o_buildSlice he he rfl rfl rfl rfl rfl rfl rfl (fun v17 => ?_)
    refine sx_pubrow (l := exL) rfl rfl (.cons ⟨_, rfl, R12⟩ (.one ⟨_, rfl, R15⟩)) (fun I17 j17 R17 => ?_)
    try have R8 := R8.le j17
    refine d_on (fun _ m => m.keepsI (.cons _ (.refl _)) ((((j15).trans j8).trans j12).trans j17) hE4 hf4) ?_
    refine d_t 12 rfl rfl (by kernel_rfl) rfl (fun _ m => m.keepsI (.cons _ (.refl _)) ((((j15).trans j8).trans j12).trans j17) hE4 hf4) (y_v rfl (v_assign rfl)) ?_
    refine d_done (by kernel_rfl) ?_
    refine go 2 ?_
    refine fin2 rfl ⟨_, _, _, rfl, m0, .inr ⟨_, he, rfl, rfl⟩⟩ rfl ?_
    exact q_i ⟨_, _, rfl, R8, R17⟩
  ·refine o_buildSlice he he rfl rfl rfl rfl rfl rfl rfl (fun v12 => ?_)
   refine sx_pubrow (l := [exMade, exLater]) rfl rfl (.cons rfl (.one rfl)) (fun I12 j12 R12 => ?_)
   try have R8 := R8.le j12
   try have R12 := R12.le j12
   try have R15 := R15.le j12
   have R12s := R12
   obtain ⟨A12, c12, rfl, _⟩ := R12s
   refine d_on (fun _ m => m.keepsI (.cons _ (.refl _)) ((j15).trans j12) hE4 hf4) ?_
   refine d_t 6 rfl rfl (by kernel_rfl) rfl (fun _ m => m.keepsI (.cons _ (.refl _)) ((j15).trans j12) hE4 hf4) (y_v rfl (v_build (pl := [(0, 1), (1, 1)]) he he rfl rfl)) ?_
   refine d_two 1 10 (by kernel_rfl) rfl rfl ?_ ?_
   ·refine o_buildSlice he he rfl rfl rfl rfl rfl rfl rfl (fun v8 => ?_)
    refine sx_pubrow (l := exC) rfl rfl (.one ⟨_, rfl, RdS.nil'⟩) (fun I8 j8 R8 => ?_)
    try have R8 := R8.le j8
    try have R12 := R12.le j8
    try have R15 := R15.le j8
    try have R17 := R17.le j8
    have R8s := R8
    obtain ⟨A8, c8, rfl, _⟩ := R8s
    refine d_on (fun _ m => m.keepsI (.cons _ (.refl _)) (((j15).trans j12).trans j8) hE4 hf4) ?_
    refine d_t 2 rfl rfl (by kernel_rfl) rfl (fun _ m => m.keepsI (.cons _ (.refl _)) (((j15).trans j12).trans j8) hE4 hf4) (y_v rfl (v_build (pl := [(0, 1)]) he he rfl rfl)) ?_
    refine d_two 10 11 (by kernel_rfl) rfl rfl ?_ ?_
    ·refine o_buildSlice he he rfl rfl rfl rfl rfl rfl rfl (fun v17 => ?_)
     refine sx_pubrow (l := exL) rfl rfl (.cons ⟨_, rfl, R12⟩ (.one ⟨_, rfl, R15⟩)) (fun I17 j17 R17 => ?_)
     try have R8 := R8.le j17
     refine d_on (fun _ m => m.keepsI (.cons _ (.refl _)) ((((j15).trans j12).trans j8).trans j17) hE4 hf4) ?_
     refine d_one 11 (by kernel_rfl) rfl ?_
     refine o_stw _ he rfl rfl rfl rfl rfl rfl ?_
     refine d_on (fun _ m => m.keepsI (.cons _ (.refl _)) ((((j15).trans j12).trans j8).trans j17) hE4 hf4) ?_
     refine d_t 12 rfl rfl (by kernel_rfl) rfl (fun _ m => m.keepsI (.cons _ (.refl _)) ((((j15).trans j12).trans j8).trans j17) hE4 hf4) (y_v rfl (v_assign rfl)) ?_
     refine d_done (by kernel_rfl) ?_
     refine go 2 ?_
     refine fin2 rfl ⟨_, _, _, rfl, m0, .inr ⟨_, he, rfl, rfl⟩⟩ rfl ?_
     exact q_i ⟨_, _, rfl, R8, R17⟩
    ·refine o_stw _ he rfl rfl rfl rfl rfl rfl ?_
     refine d_on (fun _ m => m.keepsI (.cons _ (.refl _)) (((j15).trans j12).trans j8) hE4 hf4) ?_
     refine d_one 10 (by kernel_rfl) rfl ?_
     refine o_buildSlice he he rfl rfl rfl rfl rfl rfl rfl (fun v17 => ?_)
     refine sx_pubrow (l := exL) rfl rfl (.cons ⟨_, rfl, R12⟩ (.one ⟨_, rfl, R15⟩)) (fun I17 j17 R17 => ?_)
     try have R8 := R8.le j17
     refine d_on (fun _ m => m.keepsI (.cons _ (.refl _)) ((((j15).trans j12).trans j8).trans j17) hE4 hf4) ?_
     refine d_t 12 rfl rfl (by kernel_rfl) rfl (fun _ m => m.keepsI (.cons _ (.refl _)) ((((j15).trans j12).trans j8).trans j17) hE4 hf4) (y_v rfl (v_assign rfl)) ?_
     refine d_done (by kernel_rfl) ?_
     refine go 2 ?_
     refine fin2 rfl ⟨_, _, _, rfl, m0, .inr ⟨_, he, rfl, rfl⟩⟩ rfl ?_
     exact q_i ⟨_, _, rfl, R8, R17⟩
   ·refine o_buildSlice he he rfl rfl rfl rfl rfl rfl rfl (fun v17 => ?_)
    refine sx_pubrow (l := exL) rfl rfl (.cons ⟨_, rfl, R12⟩ (.one ⟨_, rfl, R15⟩)) (fun I17 j17 R17 => ?_)
    try have R8 := R8.le j17
    refine d_on (fun _ m => m.keepsI (.cons _ (.refl _)) (((j15).trans j12).trans j17) hE4 hf4) ?_
    refine d_one 1 (by kernel_rfl) rfl ?_
    refine o_buildSlice he he rfl rfl rfl rfl rfl rfl rfl (fun v8 => ?_)
    refine sx_pubrow (l := exC) rfl rfl (.one ⟨_, rfl, RdS.nil'⟩) (fun I8 j8 R8 => ?_)
    try have R8 := R8.le j8
    try have R12 := R12.le j8
    try have R15 := R15.le j8
    try have R17 := R17.le j8
    have R8s := R8
    obtain ⟨A8, c8, rfl, _⟩ := R8s
    refine d_on (fun _ m => m.keepsI (.cons _ (.refl _)) ((((j15).trans j12).trans j17).trans j8) hE4 hf4) ?_
    refine d_t 2 rfl rfl (by kernel_rfl) rfl (fun _ m => m.keepsI (.cons _ (.refl _)) ((((j15).trans j12).trans j17).trans j8) hE4 hf4) (y_v rfl (v_build (pl := [(0, 1)]) he he rfl rfl)) ?_
    refine d_one 11 (by kernel_rfl) rfl ?_
    refine o_stw _ he rfl rfl rfl rfl rfl rfl ?_
    refine d_on (fun _ m => m.keepsI (.cons _ (.refl _)) ((((j15).trans j12).trans j17).trans j8) hE4 hf4) ?_
    refine d_t 12 rfl rfl (by kernel_rfl) rfl (fun _ m => m.keepsI (.cons _ (.refl _)) ((((j15).trans j12).trans j17).trans j8) hE4 hf4) (y_v rfl (v_assign rfl)) ?_
    refine d_done (by kernel_rfl) ?_
    refine go 2 ?_
    refine fin2 rfl ⟨_, _, _, rfl, m0, .inr ⟨_, he, rfl, rfl⟩⟩ rfl ?_
    exact q_i ⟨_, _, rfl, R8, R17⟩

theorem exIs (I : IMap) (vc : Value) (hvc : RdS I vc exC) (v : Value) (l : List Rep) (hv : RdS I v l) (hl : l.length ≤ 1000000) (hsl : ∀ r ∈ l, ∀ e ∈ r.options, SmE e) (w : Value) (ch : List Int) (hw : RdS I w ch) {b : Bool} (h : isF exC l ch = b) : FnI Tryz.prog 13 #[.agg #[vc], v, w] I (fun u J => u = .bool b) := by
  have := hiIs I vc exC hvc ex_smC v l hv hl hsl w ch hw
  rwa [h] at this

theorem exFalse (I : IMap) (vc : Value) (hvc : RdS I vc exC) (v : Value) (l : List Rep) (hv : RdS I v l) (hl : l.length ≤ 1000000) (hsl : ∀ r ∈ l, ∀ e ∈ r.options, SmE e) (w : Value) (ch : List Int) (hw : RdS I w ch) {b : Bool} (h : falseF exC l ch = b) : FnI Tryz.prog 15 #[.agg #[vc], v, w] I (fun u J => u = .bool b) := by
  have := hiFalse I vc exC hvc ex_smC v l hv hl hsl w ch hw
  rwa [h] at this

theorem head15 (I : IMap) :
    FnV Tryz.prog 9 #[] I (.bool true) := by
 refine enter Tryz.func9 Tryz.call9 rfl Tryz.ntmps9 rfl (fun w0 => ?_)
 refine go 8 ?_
 refine o_call (example15 _) rfl rfl (fun v12 I12 j12 q12 => ?_)
 obtain ⟨vc, v, rfl, hvc, hv⟩ := q12
 refine go 4 ?_
 refine o_alloc he rfl (fun g1 => ?_)
 refine go 1 ?_
 refine o_stw _ he rfl rfl rfl rfl rfl (by simp [hvc.one]) ?_
 refine go 8 ?_
 refine o_buildSlice he he rfl rfl rfl rfl rfl rfl rfl (fun v18 => ?_)
 refine sx_pubrow (l := ([1, 0] : List Int)) rfl rfl (.cons rfl (.one rfl)) (fun I18 j18 R18 => ?_)
 try have hvc := hvc.le j18
 try have hv := hv.le j18
 try have hlate := hlate.le j18
 refine go 1 ?_
 refine o_call (hiFails _ vc exC hvc ex_smC v exL hv (by decide) exL_sm _ [1, 0] R18) rfl rfl (fun v19 I19 j19 q19 => ?_)
 try have hvc := hvc.le j19
 try have hv := hv.le j19
 try have hlate := hlate.le j19
 obtain rfl := q19
 refine go 12 ?_
 refine o_buildSlice he he rfl rfl rfl rfl rfl rfl rfl (fun v25 => ?_)
 refine sx_pubrow (l := ([0, 0] : List Int)) rfl rfl (.cons rfl (.one rfl)) (fun I25 j25 R25 => ?_)
 try have hvc := hvc.le j25
 try have hv := hv.le j25
 try have hlate := hlate.le j25
 refine go 1 ?_
 refine o_call (hiFails _ vc exC hvc ex_smC v exL hv (by decide) exL_sm _ [0, 0] R25) rfl rfl (fun v26 I26 j26 q26 => ?_)
 try have hvc := hvc.le j26
 try have hv := hv.le j26
 try have hlate := hlate.le j26
 obtain rfl := q26
 refine go 12 ?_
 refine o_buildSlice he he rfl rfl rfl rfl rfl rfl rfl (fun v32 => ?_)
 refine sx_pubrow (l := ([0, 2] : List Int)) rfl rfl (.cons rfl (.one rfl)) (fun I32 j32 R32 => ?_)
 try have hvc := hvc.le j32
 try have hv := hv.le j32
 try have hlate := hlate.le j32
 refine go 1 ?_
 refine o_call (hiFails _ vc exC hvc ex_smC v exL hv (by decide) exL_sm _ [0, 2] R32) rfl rfl (fun v33 I33 j33 q33 => ?_)
 try have hvc := hvc.le j33
 try have hv := hv.le j33
 try have hlate := hlate.le j33
 obtain rfl := q33
 refine go 10 ?_
 refine o_buildSlice he he rfl rfl rfl rfl rfl rfl rfl (fun v36 => ?_)
 refine go 2 ?_
 refine o_appendR (hv) rfl he he rfl rfl rfl rfl (by decide) (by decide) rfl (fun v38 x38 f38 => ?_)
 refine go 1 ?_
 refine o_val rfl (v_build (pl := [(0, 1), (1, 1), (2, 1), (3, 1), (4, 1), (5, 1), (6, 1), (7, 1), (8, 6)]) he he rfl rfl) ?_
 refine go 1 ?_
 refine o_buildSlice he he rfl rfl rfl rfl rfl rfl rfl (fun v40 => ?_)
 refine sx_pubrow (l := [exNote]) rfl rfl (.one rfl) (fun I40 j40 R40 => ?_)
 try have hvc := hvc.le j40
 try have hv := hv.le j40
 try have hlate := hlate.le j40
 try have f38 := f38.le j40
 have R40s := R40
 obtain ⟨A40, c40, rfl, _⟩ := R40s
 refine go 1 ?_
 refine o_val rfl (v_build (pl := [(0, 1), (1, 1)]) he he rfl rfl) ?_
 refine go 1 ?_
 refine o_buildSlice he he rfl rfl rfl rfl rfl rfl rfl (fun v42 => ?_)
 refine go 1 ?_
 refine bring1 ?_
 refine o_appendO he he rfl rfl rfl rfl rfl (by decide) (by decide) rfl (fun v43 => ?_)
 refine sx_pubrow (l := exLate) rfl rfl ((Flat.nil.append f38).append (.one ⟨_, rfl, R40⟩)) (fun I43 j43 R43 => ?_)
 try have hvc := hvc.le j43
 try have hv := hv.le j43
 try have hlate := hlate.le j43
 have hlate := R43
 refine go 8 ?_
 refine o_buildSlice he he rfl rfl rfl rfl rfl rfl rfl (fun v46 => ?_)
 refine sx_pubrow (l := ([0, 0] : List Int)) rfl rfl (.cons rfl (.one rfl)) (fun I46 j46 R46 => ?_)
 try have hvc := hvc.le j46
 try have hv := hv.le j46
 try have hlate := hlate.le j46
 refine go 1 ?_
 refine o_call (exIs _ vc hvc v exL hv (by decide) exL_sm _ [0, 0] R46 ex_i00) rfl rfl (fun v47 I47 j47 q47 => ?_)
 try have hvc := hvc.le j47
 try have hv := hv.le j47
 try have hlate := hlate.le j47
 obtain rfl := q47
 refine go 4 ?_
 refine o_yes rfl rfl rfl (o_buildSlice he he rfl rfl rfl rfl rfl rfl rfl (fun v51 => ?_))
 refine sx_pubrow (l := ([0, 1] : List Int)) rfl rfl (.cons rfl (.one rfl)) (fun I51 j51 R51 => ?_)
 try have hvc := hvc.le j51
 try have hv := hv.le j51
 try have hlate := hlate.le j51
 refine go 1 ?_
 refine o_yes rfl rfl rfl (o_call (exIs _ vc hvc v exL hv (by decide) exL_sm _ [0, 1] R51 ex_i01) rfl rfl (fun v52 I52 j52 q52 => ?_))
 try have hvc := hvc.le j52
 try have hv := hv.le j52
 try have hlate := hlate.le j52
 obtain rfl := q52
 refine go 5 ?_
 refine o_yes rfl rfl rfl (o_buildSlice he he rfl rfl rfl rfl rfl rfl rfl (fun v57 => ?_))
 refine sx_pubrow (l := ([1, 1] : List Int)) rfl rfl (.cons rfl (.one rfl)) (fun I57 j57 R57 => ?_)
 try have hvc := hvc.le j57
 try have hv := hv.le j57
 try have hlate := hlate.le j57
 refine go 1 ?_
 refine o_yes rfl rfl rfl (o_call (exIs _ vc hvc v exL hv (by decide) exL_sm _ [1, 1] R57 ex_i11) rfl rfl (fun v58 I58 j58 q58 => ?_))
 try have hvc := hvc.le j58
 try have hv := hv.le j58
 try have hlate := hlate.le j58
 obtain rfl := q58
 refine go 5 ?_
 refine o_yes rfl rfl rfl (o_buildSlice he he rfl rfl rfl rfl rfl rfl rfl (fun v63 => ?_))
 refine sx_pubrow (l := ([1, 0] : List Int)) rfl rfl (.cons rfl (.one rfl)) (fun I63 j63 R63 => ?_)
 try have hvc := hvc.le j63
 try have hv := hv.le j63
 try have hlate := hlate.le j63
 refine go 1 ?_
 refine o_yes rfl rfl rfl (o_call (exIs _ vc hvc v exL hv (by decide) exL_sm _ [1, 0] R63 ex_i10) rfl rfl (fun v64 I64 j64 q64 => ?_))
 try have hvc := hvc.le j64
 try have hv := hv.le j64
 try have hlate := hlate.le j64
 obtain rfl := q64
 refine go 4 ?_
 refine o_cons (o_yes rfl rfl rfl (o_val rfl (OV.cast (u := .bool true) (v_eql rfl rfl) (congrArg Value.bool (decide_eq_true (by rw [ex_f10])))) ?_))
 refine go 3 ?_
 refine o_cons (o_yes rfl rfl rfl (o_val rfl (OV.cast (u := .bool true) (v_eql rfl rfl) (congrArg Value.bool (decide_eq_true (by rw [ex_f10])))) ?_))
 refine go 3 ?_
 refine o_cons (o_yes rfl rfl rfl (o_val rfl (OV.cast (u := .bool true) (v_eql rfl rfl) (congrArg Value.bool (decide_eq_true (by rw [ex_f00])))) ?_))
 refine go 3 ?_
 refine o_cons (o_yes rfl rfl rfl (o_val rfl (OV.cast (u := .bool true) (v_eql rfl rfl) (congrArg Value.bool (decide_eq_true (by rw [ex_f00])))) ?_))
 refine go 3 ?_
 refine o_cons (o_yes rfl rfl rfl (o_val rfl (OV.cast (u := .bool true) (v_eql rfl rfl) (congrArg Value.bool (decide_eq_true (ex_f02)))) ?_))
 refine go 11 ?_
 refine o_yes rfl rfl rfl (o_buildSlice he he rfl rfl rfl rfl rfl rfl rfl (fun v91 => ?_))
 refine sx_pubrow (l := ([-1, 0] : List Int)) rfl rfl (.cons rfl (.one rfl)) (fun I91 j91 R91 => ?_)
 try have hvc := hvc.le j91
 try have hv := hv.le j91
 try have hlate := hlate.le j91
 refine go 1 ?_
 refine o_yes rfl rfl rfl (o_call (exFalse _ vc hvc v exL hv (by decide) exL_sm _ [-1, 0] R91 ex_n0) rfl rfl (fun v92 I92 j92 q92 => ?_))
 try have hvc := hvc.le j92
 try have hv := hv.le j92
 try have hlate := hlate.le j92
 obtain rfl := q92
 refine go 6 ?_
 refine o_yes rfl rfl rfl (o_buildSlice he he rfl rfl rfl rfl rfl rfl rfl (fun v98 => ?_))
 refine sx_pubrow (l := ([1, -1] : List Int)) rfl rfl (.cons rfl (.one rfl)) (fun I98 j98 R98 => ?_)
 try have hvc := hvc.le j98
 try have hv := hv.le j98
 try have hlate := hlate.le j98
 refine go 1 ?_
 refine o_yes rfl rfl rfl (o_call (exFalse _ vc hvc v exL hv (by decide) exL_sm _ [1, -1] R98 ex_1n) rfl rfl (fun v99 I99 j99 q99 => ?_))
 try have hvc := hvc.le j99
 try have hv := hv.le j99
 try have hlate := hlate.le j99
 obtain rfl := q99
 refine go 6 ?_
 refine o_yes rfl rfl rfl (o_buildSlice he he rfl rfl rfl rfl rfl rfl rfl (fun v105 => ?_))
 refine sx_pubrow (l := ([1, 0] : List Int)) rfl rfl (.cons rfl (.one rfl)) (fun I105 j105 R105 => ?_)
 try have hvc := hvc.le j105
 try have hv := hv.le j105
 try have hlate := hlate.le j105
 refine go 1 ?_
 refine o_yes rfl rfl rfl (o_call (exFalse _ vc hvc v exL hv (by decide) exL_sm _ [1, 0] R105 ex_10) rfl rfl (fun v106 I106 j106 q106 => ?_))
 try have hvc := hvc.le j106
 try have hv := hv.le j106
 try have hlate := hlate.le j106
 obtain rfl := q106
 refine go 5 ?_
 refine o_yes rfl rfl rfl (o_buildSlice he he rfl rfl rfl rfl rfl rfl rfl (fun v111 => ?_))
 refine sx_roweq (ys := [ci 1] ++ ([ci 0] ++ [ci (-1)])) (rfl) ?_
 refine sx_pubrow (l := ([1, 0, -1] : List Int)) rfl rfl (.cons rfl (.cons rfl (.one rfl))) (fun I111 j111 R111 => ?_)
 try have hvc := hvc.le j111
 try have hv := hv.le j111
 try have hlate := hlate.le j111
 refine go 1 ?_
 refine o_yes rfl rfl rfl (o_call (exFalse _ vc hvc _ exLate hlate (by decide) exLate_sm _ [1, 0, -1] R111 ex_late) rfl rfl (fun v112 I112 j112 q112 => ?_))
 try have hvc := hvc.le j112
 try have hv := hv.le j112
 try have hlate := hlate.le j112
 obtain rfl := q112
 refine go 5 ?_
 refine fin1 rfl rfl ?_
 exact q_vI rfl

end Go.Proofs.YtkmdojpfccjnoaaGreat

/- Walks, printed by a program out of the code of the functions: each theorem is a contract of one function. -/
namespace Go.Proofs.YtkmdojpfccjnoaaGreat
open Go Go.Sx
set_option linter.all false
set_option maxRecDepth 20000
set_option maxHeartbeats 4000000
theorem repPicked (I : IMap) (v : Value) (l : List Rep) (hv : RdS I v l) (hl : l.length ≤ 1000000) (hsl : ∀ r ∈ l, ∀ e ∈ r.options, SmE e) (w : Value) (ch : List Int) (hw : RdS I w ch) :
    FnI Tryz.prog 22 #[v, w] I (fun u J => ∃ z, u = .tuple #[z, .int .i64 (pickedF l ch).2] ∧ RdS J z (pickedF l ch).1) := by
 obtain ⟨A, c0, rfl, hA, hc, hm⟩ := hv
 obtain ⟨B, c1, rfl, hB, hc1, hm1⟩ := hw
 refine enter Tryz.func22 Tryz.call22 rfl Tryz.ntmps22 rfl (fun w0 => ?_)
 refine go 6 ?_
 refine c_scope ?_
 refine go 10 ?_
 refine cb rfl (fun h14 p14 => ?_) (fun h14 p14 => ?_)
 ·refine go 8 ?_
  refine q_ng_ret ?_
  refine fin2 rfl rfl rfl ?_
  exact q_i ⟨_, by rw [picked_no (by simpa using h14)], by rw [picked_no (by simpa using h14)]; exact RdS.nil'⟩
 ·have hle : ((l.length : Nat) : Int) = (ch.length : Nat) := by simpa using h14
  refine go 4 ?_
  refine sx_nilrow 53 14 ?_
  refine go 4 ?_
  refine c_label ?_
  refine go 10 ?_
  refine c_loop4 ((0 : Nat)) (_) ([]) ([]) (fun i v6 xs out => I)
   (fun i v6 xs out => [(1, .slice B ch.length c1), (6, v6), (15, .slice A l.length c0), (16, .int .i64 ((l.length : Nat) : Int)), (17, .int .i64 ((i : Nat) : Int))])
   (fun i v6 xs out => [.row v6 53 14 out.length xs])
   (fun i v6 xs out => i ≤ l.length ∧ allTo okK l ch i = true ∧ evsTo l ch i = out ∧ Flat I xs out)
   (fun i v6 xs out => l.length - i) ⟨Nat.zero_le _, rfl, rfl, .nil⟩ rfl sb rfl ?_
  intro i v6 xs out ⟨hi, hok, hev, hF⟩
  have hol : out.length ≤ i := by rw [← hev]; exact evs_len _ _ _
  refine go 6 ?_
  refine cb rfl (fun h18 p18 => ?_) (fun h18 p18 => ?_)
  ·have hlt : i < l.length := by omega
   have hlt2 : i < ch.length := by omega
   refine go 7 ?_
   obtain ⟨b20, o20, w20, e20, c20, r20⟩ := RdA.at_ hA (i := i) (by omega)
   obtain ⟨q20, rfl, S20, d20, rfl, hS20, hd20, hm20⟩ := r20
   refine o_v rfl (v_idx he rfl rfl e20 (i) (by omega) (by omega)) ?_
   refine o_v rfl (v_ldIa he rfl c20 rfl) ?_
   refine go 1 ?_
   refine o_alloc he rfl (fun g8 => ?_)
   refine go 2 ?_
   refine o_stw _ he rfl rfl rfl rfl rfl rfl ?_
   refine go 6 ?_
   obtain ⟨b24, o24, w24, e24, c24, r24⟩ := RdA.at_ hB (i := i) (by omega)
   obtain rfl := r24
   refine o_v rfl (v_idx he rfl rfl e24 (i) (by omega) (by omega)) ?_
   refine o_v rfl (v_ldI he rfl (c24 0 _ rfl)) ?_
   refine go 9 ?_
   refine sxb 28 rfl (fun h28 p28 => ?_) (fun h28 p28 => ?_)
   ·have hbad : okK l[i] ch[i] = false := by simp [okK, h28]
    refine go 7 ?_
    refine c_true rfl ?_
    refine go 13 ?_
    refine q_ng_ret ?_
    refine fin2 rfl rfl rfl ?_
    exact q_i ⟨_, by rw [picked_bad hlt hlt2 hbad], by rw [picked_bad hlt hlt2 hbad]; exact RdS.nil'⟩
   ·refine go 3 ?_
    refine o_yes rfl rfl h28 (o_callV (repChoices _ l[i] S20 d20 ⟨_, _, rfl, hS20, hd20, hm20⟩ (hsl _ (List.getElem_mem hlt))) rfl rfl ?_)
    refine go 4 ?_
    refine cb rfl (fun h33 p33 => ?_) (fun h33 p33 => ?_)
    ·have hbad : okK l[i] ch[i] = false := by simp_all [okK]
     refine go 13 ?_
     refine q_ng_ret ?_
     refine fin2 rfl rfl rfl ?_
     exact q_i ⟨_, by rw [picked_bad hlt hlt2 hbad], by rw [picked_bad hlt hlt2 hbad]; exact RdS.nil'⟩
    ·have hgood : okK l[i] ch[i] = true := by simp_all [okK]
     have hcl := chs_le l[i]
     refine go 12 ?_
     refine cb rfl (fun h38 p38 => ?_) (fun h38 p38 => ?_)
     ·refine go 9 ?_
      refine sx_drop ?_
      exact q_next4 (i + 1) (_) (_) (out) ⟨by omega, allTo_succ hok hlt hlt2 hgood, evs_no hlt hlt2 hev (by simpa using h38), hF⟩ (by omega) rfl sb (by first | rfl | (simp only [List.length_append, List.length_singleton]; rfl) | simp only [List.length_append, List.length_singleton])
     ·have hk : ch[i].toNat < l[i].options.length := by simp_all [okK]; omega
      refine go 7 ?_
      obtain ⟨b43, o43, w43, e43, c43, r43⟩ := RdA.at_ hS20 (i := ch[i].toNat) hk
      obtain rfl := r43
      refine o_v rfl (v_idx he rfl rfl e43 (ch[i].toNat) (by omega) hk) ?_
      refine o_v rfl (v_ldIa he rfl c43 rfl) ?_
      refine go 1 ?_
      refine o_buildSlice he he rfl rfl rfl rfl rfl rfl rfl (fun v45 => ?_)
      refine go 1 ?_
      refine bring2 ?_
      refine o_appendO he he rfl rfl rfl rfl rfl (by omega) (by omega) rfl (fun v46 => ?_)
      refine go 9 ?_
      refine bring1 ?_
      refine sx_drop ?_
      refine bring1 ?_
      refine sx_drop ?_
      exact q_next4 (i + 1) (_) (_) (out ++ [l[i].options[ch[i].toNat]]) ⟨by omega, allTo_succ hok hlt hlt2 hgood, evs_yes hlt hlt2 hev hk, hF.append (.one rfl)⟩ (by omega) rfl sb (by first | rfl | (simp only [List.length_append, List.length_singleton]; rfl) | simp only [List.length_append, List.length_singleton])
  ·refine go 7 ?_
   obtain rfl : i = l.length := by omega
   refine sx_pubrow (l := out) rfl rfl (hF) (fun Ip jp Rp => ?_)
   refine go 6 ?_
   refine q_ng_ret ?_
   refine fin2 rfl rfl rfl ?_
   exact q_i ⟨_, by rw [picked_ok hle hok], by rw [picked_ok hle hok, hev]; exact Rp⟩

end Go.Proofs.YtkmdojpfccjnoaaGreat

