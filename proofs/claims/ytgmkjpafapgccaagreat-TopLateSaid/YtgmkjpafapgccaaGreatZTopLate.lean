
import Derived.Test.YtgmkjpafapgccaaGreatZTlf
import Derived.ChangeMaps5
import Derived.OpenShut
import Derived.ProofKit
import Derived.Test.YtgmkjpafapgccaaGreatRows
namespace Go.Proofs.YtgmkjpafapgccaaGreat
open Go Go.Sx
set_option linter.all false
set_option maxRecDepth 20000
set_option maxHeartbeats 4000000
instance T.by_38:Has (a1W Tryz.prog 38) ([.int .i64 0,.int .i64 0,.int .i64 0,.bool false,.string ⟨#[]⟩,.string ⟨#[]⟩,.int .i64 0,.string ⟨#[]⟩,.string ⟨#[]⟩,.int .i64 0,.int .i64 0,.slice none 0 0],12,144):=hk
instance T.pl_102:Has (plK Tryz.prog 102) [(0,1),(1,1),(2,1)]:=hk
instance T.pl_109:Has (plK Tryz.prog 109) [(0,1),(1,1)]:=hk
instance T.pl_24:Has (plK Tryz.prog 24) [(0,1)]:=hk
instance T.pl_27:Has (plK Tryz.prog 27) [(0,1),(1,1),(2,1)]:=hk
instance T.pl_29:Has (plK Tryz.prog 29) [(0,1),(1,3)]:=hk
instance T.pl_38:Has (plK Tryz.prog 38) [(0,1),(1,1),(2,1),(3,1),(4,8)]:=hk
instance T.pl_56:Has (plK Tryz.prog 56) [(0,1),(1,1),(2,1),(3,1),(4,1),(5,1)]:=hk
instance T.zero_24:Has (a1i Tryz.prog 24) [.slice none 0 0]:=hk
instance T.zero_29:Has (a1i Tryz.prog 29) [.slice none 0 0,.int .i64 0,.int .i64 0,.slice none 0 0]:=hk
instance T.zero_56:Has (a1i Tryz.prog 56) [.slice none 0 0,.slice none 0 0,.slice none 0 0,.slice none 0 0,.slice none 0 0,.slice none 0 0]:=hk
theorem a3S (I:IMap) (v:Value) (l:List Amd) (hv:RdS I v l) (hl:l.length≤1000) (hok:∀a∈l,a4R a.rule) (day clock:Int) (u:Value) (cs:List Cnc) (hu:RdS I u cs) :
    FnI Tryz.prog 11 #[v,.int .i64 (day),.int .i64 (clock),u] I (fun q J=>∃w,q = .agg #[w,.slice none 0 0,.slice none 0 0,u,.slice none 0 0,.slice none 0 0]∧RdS J w (inF l day clock)∧(inF l day clock).length≤l.length):=by
 obtain⟨UA,uc,rfl,_,_,_⟩:=id hu;refine enter Tryz.func11 Tryz.call11 rfl Tryz.ntmps11 rfl fun w0=>?_;refine go 4 fun g8=>?_
 refine go 8 ?_;refine a0p (c0e _ v l hv hl hok day clock) rfl rfl fun v12 I12 j12 q12=>?_;obtain⟨h12,hl12⟩:=q12;obtain⟨WA,wc,rfl,_,_,_⟩:=id h12;refine go 8 ?_;exact q_i ⟨_,rfl,h12,hl12⟩
theorem c9b (I:IMap) (e:Evt) :
    FnI Tryz.prog 92 #[.agg e.cells.toArray] I (fun u J=>∃A c,u = .agg #[.slice A 1 c,.bool false]∧RdS J (.slice A 1 c) [e]):=by
 refine enter Tryz.func92 Tryz.call92 rfl Tryz.ntmps92 rfl fun w0=>?_;refine go 4 fun g1=>?_
 refine go 2 fun g2=>?_
 refine go 7 fun v4=>?_
 refine a0i (l:=[e]) rfl rfl ((.one rfl)) fun I4 j4 R4=>?_;obtain⟨A4,c4,rfl,_,_,_⟩:=id R4;refine go 7 ?_;exact q_i ⟨_,_,rfl,R4⟩
theorem d2A (I:IMap) (v:ByteArray) :
    FnV Tryz.prog 93 #[.string v] I (.agg (b3A v).cells.toArray):=by
 refine enter Tryz.func93 Tryz.call93 rfl Tryz.ntmps93 rfl fun w0=>?_;refine go 4 fun g2=>?_
 refine go 12 ?_;exact q_v rfl
theorem d5t (I:IMap) :
    FnI Tryz.prog 33 #[] I (fun u J=>∃vc v,u = .tuple #[.agg #[vc,.int .i64 (2),.int .i64 (0),.slice none 0 0],v,.agg #[.string ⟨#[102,111,114,103,101,100]⟩,.string a9Q,.int .i64 (7),.string c7I,.string ⟨#[66]⟩,.int .i64 (0),.int .i64 (0),.slice none 0 0]]∧RdS J vc fgC∧RdS J v fgL):=by
 refine enter Tryz.func33 Tryz.call33 rfl Tryz.ntmps33 rfl fun w0=>?_;refine go 4 fun g0=>?_
 refine go 3 fun g2=>?_
 refine go 6 fun v8=>?_
 refine a0i (l:=[a9Q]) rfl rfl ((.one rfl)) fun I8 j8 R8=>?_
 try have R8:=R8.le j8
 try have R10:=R10.le j8
 try have R14:=R14.le j8
 try have hw20:=hw20.le j8
 try have hw23:=hw23.le j8
 try have R28:=R28.le j8
 try have hw32:=hw32.le j8
 obtain⟨A8,c8,rfl,_,_,_⟩:=id R8;refine go 3 fun v10=>?_
 refine a0i (l:=[(⟨nM,[a9Q],1⟩:Slot)]) rfl rfl ((.one ⟨_,rfl,R8⟩)) fun I10 j10 R10=>?_
 try have R8:=R8.le j10
 try have R10:=R10.le j10
 try have R14:=R14.le j10
 try have hw20:=hw20.le j10
 try have hw23:=hw23.le j10
 try have R28:=R28.le j10
 try have hw32:=hw32.le j10
 obtain⟨A10,c10,rfl,_,_,_⟩:=id R10;refine go 10 fun v14=>?_
 refine a0i (l:=fgC) rfl rfl ((.cons ⟨_,rfl,RdS.nil'⟩ (.one ⟨_,rfl,R10⟩))) fun I14 j14 R14=>?_
 try have R8:=R8.le j14
 try have R10:=R10.le j14
 try have R14:=R14.le j14
 try have hw20:=hw20.le j14
 try have hw23:=hw23.le j14
 try have R28:=R28.le j14
 try have hw32:=hw32.le j14
 obtain⟨A14,c14,rfl,_,_,_⟩:=id R14;refine go 5 fun g4=>?_
 refine go 19 ?_;refine a0p (c9b _ (b6O nM1 a9Q)) rfl rfl fun v20 I20 j20 q20=>?_
 try have R8:=R8.le j20
 try have R10:=R10.le j20
 try have R14:=R14.le j20
 try have hw20:=hw20.le j20
 try have hw23:=hw23.le j20
 try have R28:=R28.le j20
 try have hw32:=hw32.le j20
 obtain⟨A20,c20,rfl,hw20⟩:=q20;refine go 3 ?_;refine a0p (c9b _ (b6O nV1 b7m)) rfl rfl fun v23 I23 j23 q23=>?_
 try have R8:=R8.le j23
 try have R10:=R10.le j23
 try have R14:=R14.le j23
 try have hw20:=hw20.le j23
 try have hw23:=hw23.le j23
 try have R28:=R28.le j23
 try have hw32:=hw32.le j23
 obtain⟨A23,c23,rfl,hw23⟩:=q23;refine go 2 ?_;refine cV (d2A _ ⟨#[65]⟩) ?_;refine go 2 ?_;refine cV (d2A _ ⟨#[66]⟩) ?_;refine go 2 fun v28=>?_
 refine a0i (l:=[b3A ⟨#[65]⟩,b3A ⟨#[66]⟩]) rfl rfl ((.cons rfl (.one rfl))) fun I28 j28 R28=>?_
 try have R8:=R8.le j28
 try have R10:=R10.le j28
 try have R14:=R14.le j28
 try have hw20:=hw20.le j28
 try have hw23:=hw23.le j28
 try have R28:=R28.le j28
 try have hw32:=hw32.le j28
 obtain⟨A28,c28,rfl,_,_,_⟩:=id R28;refine go 4 ?_;refine a0p (c9b _ d2z) rfl rfl fun v32 I32 j32 q32=>?_
 try have R8:=R8.le j32
 try have R10:=R10.le j32
 try have R14:=R14.le j32
 try have hw20:=hw20.le j32
 try have hw23:=hw23.le j32
 try have R28:=R28.le j32
 try have hw32:=hw32.le j32
 obtain⟨A32,c32,rfl,hw32⟩:=q32;refine go 2 fun v33=>?_
 refine b7Y (ys:=[.slice A20 1 c20,.bool false]++([.slice A23 1 c23,.bool false]++([.slice A28 2 c28,.bool false]++[.slice A32 1 c32,.bool false]))) (rfl) ?_;refine a0i (l:=fgL) rfl rfl ((.cons ⟨_,rfl,hw20⟩ (.cons ⟨_,rfl,hw23⟩ (.cons ⟨_,rfl,R28⟩ (.one ⟨_,rfl,hw32⟩))))) fun I33 j33 R33=>?_
 try have R8:=R8.le j33
 try have R10:=R10.le j33
 try have R14:=R14.le j33
 try have hw20:=hw20.le j33
 try have hw23:=hw23.le j33
 try have R28:=R28.le j33
 try have hw32:=hw32.le j33
 refine go 10 ?_;refine a0d ?_;refine go 3 ?_;refine a0d ?_;refine go 5 ?_;exact q_i ⟨_,_,rfl,R14,R33⟩
theorem d4e (I:IMap) :
    FnI Tryz.prog 7 #[] I (fun u J=>u = .bool true):=by
 refine enter Tryz.func7 Tryz.call7 rfl Tryz.ntmps7 rfl fun w0=>?_;refine go 8 ?_;refine a0p (d5t _) rfl rfl fun v11 I11 j11 q11=>?_
 try have hvc:=hvc.le j11
 try have hvl:=hvl.le j11
 try have R19:=R19.le j11
 try have R6:=R6.le j11
 try have hVa:=hVa.le j11
 try have hVb:=hVb.le j11
 try have h29:=h29.le j11
 try have h34:=h34.le j11
 try have h41:=h41.le j11
 try have R40:=R40.le j11
 obtain⟨vc,v,rfl,hvc,hvl⟩:=q11;obtain⟨CA,cc,rfl,_,_,_⟩:=id hvc;obtain⟨LA,lc,rfl,_,_,_⟩:=id hvl;obtain⟨R,hR⟩:=b7L fgL;refine go 6 fun g1=>?_
 refine go 2 fun g3=>?_
 refine go 1 ?_;refine a0b ?_;refine go 3 ?_;refine a0b ?_;refine go 9 fun g4=>?_
 refine go 10 fun v19=>?_
 refine a0i (l:=fgA) rfl rfl ((.one ⟨_,rfl,RdS.nil'⟩)) fun I19 j19 R19=>?_
 try have hvc:=hvc.le j19
 try have hvl:=hvl.le j19
 try have R19:=R19.le j19
 try have R6:=R6.le j19
 try have hVa:=hVa.le j19
 try have hVb:=hVb.le j19
 try have h29:=h29.le j19
 try have h34:=h34.le j19
 try have h41:=h41.le j19
 try have R40:=R40.le j19
 obtain⟨A5,c5,rfl,_,_,_⟩:=id R19;refine go 4 ?_;refine a6z (Ix:=(fun v6 xs=>I19)) (Lx:=(fun v6 xs=>[(1,.pointer (some ⟨g1,0,none⟩)),(2,.slice LA fgL.length lc),(5,.slice A5 fgA.length c5),(6,v6)])) (Hx:=(fun v6 xs=>[.row v6 38 12 fgV.length xs,.blk g1 29 [.slice CA fgC.length cc,.int .i64 (2),.int .i64 (0),.slice none 0 0]])) (p:=(fun v6 xs=>Flat I19 xs fgV)) ?_ ?_
 ·refine a1J fun hE4 hf4=>?_;refine go 1 ?_;refine dG 1 1 ?_;refine dG 3 2 ?_;refine dT2 0 5 ?_ ?_
  ·refine go 1 fun v20=>?_
   refine go 1 ?_;refine dT2 2 5 ?_ ?_
   ·refine a1d (R19) rfl he he rfl rfl rfl rfl (by decide) (by decide) rfl fun v22 x22 f22=>?_;refine dH 5 0 ?_;refine go 1 fun v25=>?_
    refine dH 6 0 ?_;refine a0b ?_;refine a0z he he rfl rfl rfl rfl rfl (by decide) (by decide) rfl fun v26=>?_;refine dG 7 1 ?_;refine go 2 ?_;refine a0b ?_;refine a0a ?_;refine a0b ?_;refine a0a ?_;refine a0b ?_;refine a0a ?_;exact a1U (_) (_) (f22.append (.one ⟨_,rfl,RdS.nil'⟩)) sb (by rfl) rfl
   ·refine go 1 fun v25=>?_
    refine dH 2 0 ?_;refine a0b ?_;refine a1d (R19) rfl he he rfl rfl rfl rfl (by decide) (by decide) rfl fun v22 x22 f22=>?_;refine dH 6 0 ?_;refine a0b ?_;refine a0b ?_;refine a0z he he rfl rfl rfl rfl rfl (by decide) (by decide) rfl fun v26=>?_;refine dG 7 1 ?_;refine go 2 ?_;refine a0b ?_;refine a0a ?_;refine a0b ?_;refine a0a ?_;refine a0b ?_;refine a0a ?_;exact a1U (_) (_) (f22.append (.one ⟨_,rfl,RdS.nil'⟩)) sb (by rfl) rfl
  ·refine go 1 fun v25=>?_
   refine dH 0 0 ?_;refine go 1 fun v20=>?_
   refine dH 2 0 ?_;refine a1d (R19) rfl he he rfl rfl rfl rfl (by decide) (by decide) rfl fun v22 x22 f22=>?_;refine dH 6 0 ?_;refine a0b ?_;refine a0b ?_;refine a0z he he rfl rfl rfl rfl rfl (by decide) (by decide) rfl fun v26=>?_;refine dG 7 1 ?_;refine go 2 ?_;refine a0b ?_;refine a0a ?_;refine a0b ?_;refine a0a ?_;refine a0b ?_;refine a0a ?_;exact a1U (_) (_) (f22.append (.one ⟨_,rfl,RdS.nil'⟩)) sb (by rfl) rfl
 ·intro v6 xs hF6;refine go 1 ?_;refine a9n (Ix:=(fun J b7 k7 u7 t7=>J)) (Lx:=(fun J b7 k7 u7 t7=>[(1,.pointer (some ⟨g1,0,none⟩)),(2,.slice LA fgL.length lc),(5,.slice A5 fgA.length c5),(6,v6),(7,.pointer (some ⟨b7,0,none⟩))])) (Hx:=(fun J b7 k7 u7 t7=>[.blk b7 48 ((decR bxF fgC (fgB (inF fgA 5 9) []) fgL (a3V fgL R nV1) nV1 5).cs k7 u7 t7),.row v6 38 12 fgV.length xs,.blk g1 29 [.slice CA fgC.length cc,.int .i64 (2),.int .i64 (0),.slice none 0 0]])) (p:=(fun J b7 k7 u7 t7=>ILe I19 J∧VdRd J k7 u7 t7 (decR bxF fgC (fgB (inF fgA 5 9) []) fgL (a3V fgL R nV1) nV1 5))) ?_ ?_
  ·refine a1J fun hE5 hf5=>?_;refine go 1 ?_;refine dG 0 2 ?_;refine dG 3 1 ?_;refine dT2 2 5 ?_ ?_
   ·refine a0p (a3S _ _ fgA R19 (by decide) a5o 5 9 _ _ RdS.nil') rfl rfl fun v29 I29 j29 q29=>?_
    try have hvc:=hvc.le j29
    try have hvl:=hvl.le j29
    try have R19:=R19.le j29
    try have R6:=R6.le j29
    try have hVa:=hVa.le j29
    try have hVb:=hVb.le j29
    try have h29:=h29.le j29
    try have h34:=h34.le j29
    try have h41:=h41.le j29
    try have R40:=R40.le j29
    obtain⟨w29,rfl,h29,hl29⟩:=q29;obtain⟨WA29,wc29,rfl,_,_,_⟩:=id h29;refine go 1 ?_;refine dT2 4 5 ?_ ?_
    ·refine a0p (a1G _ _ fgC hvc a6r bxF _ a4F _ fgL hvl (by decide) b0F a4J R hR _ _ _ _ _ _ _ (a3I h29 RdS.nil') (a3H (a3K a5o) (by have:=hl29;exact Nat.le_trans this (by decide))) nV1 5) rfl rfl fun v31 I31 j31 q31=>?_
     try have hvc:=hvc.le j31
     try have hvl:=hvl.le j31
     try have R19:=R19.le j31
     try have R6:=R6.le j31
     try have hVa:=hVa.le j31
     try have hVb:=hVb.le j31
     try have h29:=h29.le j31
     try have h34:=h34.le j31
     try have h41:=h41.le j31
     try have R40:=R40.le j31
     obtain⟨k31,u31,t31,rfl,hV31⟩:=q31;refine dH 5 0 ?_;refine go 1 fun g7=>?_
     refine dH 6 0 ?_;refine a0Q _ he rfl rfl rfl rfl rfl (Enc.one (α:=Vdt) ⟨_,_,_,rfl,hV31⟩) ?_;refine go 3 ?_;exact a2y (_) (_) (_) (_) (_) ⟨j29.trans j31,hV31⟩ sb rfl rfl
    ·refine go 1 fun g7=>?_
     refine dH 4 0 ?_;refine a0p (a1G _ _ fgC hvc a6r bxF _ a4F _ fgL hvl (by decide) b0F a4J R hR _ _ _ _ _ _ _ (a3I h29 RdS.nil') (a3H (a3K a5o) (by have:=hl29;exact Nat.le_trans this (by decide))) nV1 5) rfl rfl fun v31 I31 j31 q31=>?_
     try have hvc:=hvc.le j31
     try have hvl:=hvl.le j31
     try have R19:=R19.le j31
     try have R6:=R6.le j31
     try have hVa:=hVa.le j31
     try have hVb:=hVb.le j31
     try have h29:=h29.le j31
     try have h34:=h34.le j31
     try have h41:=h41.le j31
     try have R40:=R40.le j31
     obtain⟨k31,u31,t31,rfl,hV31⟩:=q31;refine dH 6 0 ?_;refine a0Q _ he rfl rfl rfl rfl rfl (Enc.one (α:=Vdt) ⟨_,_,_,rfl,hV31⟩) ?_;refine go 3 ?_;exact a2y (_) (_) (_) (_) (_) ⟨j29.trans j31,hV31⟩ sb rfl rfl
   ·refine go 1 fun g7=>?_
    refine dH 2 0 ?_;refine a0p (a3S _ _ fgA R19 (by decide) a5o 5 9 _ _ RdS.nil') rfl rfl fun v29 I29 j29 q29=>?_
    try have hvc:=hvc.le j29
    try have hvl:=hvl.le j29
    try have R19:=R19.le j29
    try have R6:=R6.le j29
    try have hVa:=hVa.le j29
    try have hVb:=hVb.le j29
    try have h29:=h29.le j29
    try have h34:=h34.le j29
    try have h41:=h41.le j29
    try have R40:=R40.le j29
    obtain⟨w29,rfl,h29,hl29⟩:=q29;obtain⟨WA29,wc29,rfl,_,_,_⟩:=id h29;refine dH 4 0 ?_;refine a0p (a1G _ _ fgC hvc a6r bxF _ a4F _ fgL hvl (by decide) b0F a4J R hR _ _ _ _ _ _ _ (a3I h29 RdS.nil') (a3H (a3K a5o) (by have:=hl29;exact Nat.le_trans this (by decide))) nV1 5) rfl rfl fun v31 I31 j31 q31=>?_
    try have hvc:=hvc.le j31
    try have hvl:=hvl.le j31
    try have R19:=R19.le j31
    try have R6:=R6.le j31
    try have hVa:=hVa.le j31
    try have hVb:=hVb.le j31
    try have h29:=h29.le j31
    try have h34:=h34.le j31
    try have h41:=h41.le j31
    try have R40:=R40.le j31
    obtain⟨k31,u31,t31,rfl,hV31⟩:=q31;refine dH 6 0 ?_;refine a0Q _ he rfl rfl rfl rfl rfl (Enc.one (α:=Vdt) ⟨_,_,_,rfl,hV31⟩) ?_;refine go 3 ?_;exact a2y (_) (_) (_) (_) (_) ⟨j29.trans j31,hV31⟩ sb rfl rfl
  ·intro J b7 k7 u7 t7 ⟨hJ,hVa⟩;have hvc:=hvc.le hJ;have hvl:=hvl.le hJ;have R19:=R19.le hJ;have hF6:=hF6.le hJ;refine go 1 ?_;refine a9n (Ix:=(fun J2 b8 k8 u8 t8=>J2)) (Lx:=(fun J2 b8 k8 u8 t8=>[(1,.pointer (some ⟨g1,0,none⟩)),(2,.slice LA fgL.length lc),(5,.slice A5 fgA.length c5),(7,.pointer (some ⟨b7,0,none⟩)),(8,.pointer (some ⟨b8,0,none⟩))])) (Hx:=(fun J2 b8 k8 u8 t8=>[.blk b8 48 ((decR bxF fgC (fgB (inF fgV 5 9) []) fgL (a3V fgL R nV1) nV1 5).cs k8 u8 t8),.blk b7 48 ((decR bxF fgC (fgB (inF fgA 5 9) []) fgL (a3V fgL R nV1) nV1 5).cs k7 u7 t7),.blk g1 29 [.slice CA fgC.length cc,.int .i64 (2),.int .i64 (0),.slice none 0 0]])) (p:=(fun J2 b8 k8 u8 t8=>ILe J J2∧VdRd J2 k8 u8 t8 (decR bxF fgC (fgB (inF fgV 5 9) []) fgL (a3V fgL R nV1) nV1 5))) ?_ ?_
   ·refine a0b ?_;refine a0i (l:=fgV) rfl rfl hF6 fun I6 j6 R6=>?_;have hvc:=hvc.le j6;have hvl:=hvl.le j6;have R19:=R19.le j6;have hVa:=hVa.le j6;obtain⟨A6,c6,rfl,_,_,_⟩:=id R6;refine a1J fun hE6 hf6=>?_;refine go 1 ?_;refine dG 0 2 ?_;refine dG 3 1 ?_;refine dT2 2 5 ?_ ?_
    ·refine a0p (a3S _ _ fgV R6 (by decide) b3B 5 9 _ _ RdS.nil') rfl rfl fun v34 I34 j34 q34=>?_
     try have hvc:=hvc.le j34
     try have hvl:=hvl.le j34
     try have R19:=R19.le j34
     try have R6:=R6.le j34
     try have hVa:=hVa.le j34
     try have hVb:=hVb.le j34
     try have h29:=h29.le j34
     try have h34:=h34.le j34
     try have h41:=h41.le j34
     try have R40:=R40.le j34
     obtain⟨w34,rfl,h34,hl34⟩:=q34;obtain⟨WA34,wc34,rfl,_,_,_⟩:=id h34;refine go 1 ?_;refine dT2 4 5 ?_ ?_
     ·refine a0p (a1G _ _ fgC hvc a6r bxF _ a4F _ fgL hvl (by decide) b0F a4J R hR _ _ _ _ _ _ _ (a3I h34 RdS.nil') (a3H (a3K b3B) (by have:=hl34;exact Nat.le_trans this (by decide))) nV1 5) rfl rfl fun v36 I36 j36 q36=>?_
      try have hvc:=hvc.le j36
      try have hvl:=hvl.le j36
      try have R19:=R19.le j36
      try have R6:=R6.le j36
      try have hVa:=hVa.le j36
      try have hVb:=hVb.le j36
      try have h29:=h29.le j36
      try have h34:=h34.le j36
      try have h41:=h41.le j36
      try have R40:=R40.le j36
      obtain⟨k36,u36,t36,rfl,hV36⟩:=q36;refine dH 5 0 ?_;refine go 1 fun g8=>?_
      refine dH 6 0 ?_;refine a0Q _ he rfl rfl rfl rfl rfl (Enc.one (α:=Vdt) ⟨_,_,_,rfl,hV36⟩) ?_;refine go 3 ?_;exact a2y (_) (_) (_) (_) (_) ⟨j6.trans (j34.trans j36),hV36⟩ sb rfl rfl
     ·refine go 1 fun g8=>?_
      refine dH 4 0 ?_;refine a0p (a1G _ _ fgC hvc a6r bxF _ a4F _ fgL hvl (by decide) b0F a4J R hR _ _ _ _ _ _ _ (a3I h34 RdS.nil') (a3H (a3K b3B) (by have:=hl34;exact Nat.le_trans this (by decide))) nV1 5) rfl rfl fun v36 I36 j36 q36=>?_
      try have hvc:=hvc.le j36
      try have hvl:=hvl.le j36
      try have R19:=R19.le j36
      try have R6:=R6.le j36
      try have hVa:=hVa.le j36
      try have hVb:=hVb.le j36
      try have h29:=h29.le j36
      try have h34:=h34.le j36
      try have h41:=h41.le j36
      try have R40:=R40.le j36
      obtain⟨k36,u36,t36,rfl,hV36⟩:=q36;refine dH 6 0 ?_;refine a0Q _ he rfl rfl rfl rfl rfl (Enc.one (α:=Vdt) ⟨_,_,_,rfl,hV36⟩) ?_;refine go 3 ?_;exact a2y (_) (_) (_) (_) (_) ⟨j6.trans (j34.trans j36),hV36⟩ sb rfl rfl
    ·refine go 1 fun g8=>?_
     refine dH 2 0 ?_;refine a0p (a3S _ _ fgV R6 (by decide) b3B 5 9 _ _ RdS.nil') rfl rfl fun v34 I34 j34 q34=>?_
     try have hvc:=hvc.le j34
     try have hvl:=hvl.le j34
     try have R19:=R19.le j34
     try have R6:=R6.le j34
     try have hVa:=hVa.le j34
     try have hVb:=hVb.le j34
     try have h29:=h29.le j34
     try have h34:=h34.le j34
     try have h41:=h41.le j34
     try have R40:=R40.le j34
     obtain⟨w34,rfl,h34,hl34⟩:=q34;obtain⟨WA34,wc34,rfl,_,_,_⟩:=id h34;refine dH 4 0 ?_;refine a0p (a1G _ _ fgC hvc a6r bxF _ a4F _ fgL hvl (by decide) b0F a4J R hR _ _ _ _ _ _ _ (a3I h34 RdS.nil') (a3H (a3K b3B) (by have:=hl34;exact Nat.le_trans this (by decide))) nV1 5) rfl rfl fun v36 I36 j36 q36=>?_
     try have hvc:=hvc.le j36
     try have hvl:=hvl.le j36
     try have R19:=R19.le j36
     try have R6:=R6.le j36
     try have hVa:=hVa.le j36
     try have hVb:=hVb.le j36
     try have h29:=h29.le j36
     try have h34:=h34.le j36
     try have h41:=h41.le j36
     try have R40:=R40.le j36
     obtain⟨k36,u36,t36,rfl,hV36⟩:=q36;refine dH 6 0 ?_;refine a0Q _ he rfl rfl rfl rfl rfl (Enc.one (α:=Vdt) ⟨_,_,_,rfl,hV36⟩) ?_;refine go 3 ?_;exact a2y (_) (_) (_) (_) (_) ⟨j6.trans (j34.trans j36),hV36⟩ sb rfl rfl
   ·intro J2 b8 k8 u8 t8 ⟨hJ2,hVb⟩;have hvc:=hvc.le hJ2;have hvl:=hvl.le hJ2;have R19:=R19.le hJ2;have hVa:=hVa.le hJ2;refine go 1 ?_;refine a9n (Ix:=(fun J b9 k9 u9 t9=>J)) (Lx:=(fun J b9 k9 u9 t9=>[(7,.pointer (some ⟨b7,0,none⟩)),(8,.pointer (some ⟨b8,0,none⟩)),(9,.pointer (some ⟨b9,0,none⟩))])) (Hx:=(fun J b9 k9 u9 t9=>[.blk b9 48 ((decR bxF fgC (fgB (inF fgA 5 9) [⟨nV1,nR,5⟩]) fgL (a3V fgL R nV1) nV1 5).cs k9 u9 t9),.blk b8 48 ((decR bxF fgC (fgB (inF fgV 5 9) []) fgL (a3V fgL R nV1) nV1 5).cs k8 u8 t8),.blk b7 48 ((decR bxF fgC (fgB (inF fgA 5 9) []) fgL (a3V fgL R nV1) nV1 5).cs k7 u7 t7)])) (p:=(fun J b9 k9 u9 t9=>True)) ?_ ?_
    ·refine a1J fun hE7 hf7=>?_;refine go 1 ?_;refine dG 0 3 ?_;refine dG 5 1 ?_;refine dT2 3 7 ?_ ?_
     ·refine go 1 fun v40=>?_
      refine a0i (l:=[(⟨nV1,nR,5⟩:Cnc)]) rfl rfl ((.one rfl)) fun I40 j40 R40=>?_
      try have hvc:=hvc.le j40
      try have hvl:=hvl.le j40
      try have R19:=R19.le j40
      try have R6:=R6.le j40
      try have hVa:=hVa.le j40
      try have hVb:=hVb.le j40
      try have h29:=h29.le j40
      try have h34:=h34.le j40
      try have h41:=h41.le j40
      try have R40:=R40.le j40
      refine go 1 ?_;refine dT2 4 7 ?_ ?_
      ·refine a0p (a3S _ _ fgA R19 (by decide) a5o 5 9 _ _ R40) rfl rfl fun v41 I41 j41 q41=>?_
       try have hvc:=hvc.le j41
       try have hvl:=hvl.le j41
       try have R19:=R19.le j41
       try have R6:=R6.le j41
       try have hVa:=hVa.le j41
       try have hVb:=hVb.le j41
       try have h29:=h29.le j41
       try have h34:=h34.le j41
       try have h41:=h41.le j41
       try have R40:=R40.le j41
       obtain⟨w41,rfl,h41,hl41⟩:=q41;obtain⟨WA41,wc41,rfl,_,_,_⟩:=id h41;refine go 1 ?_;refine dT2 6 7 ?_ ?_
       ·refine a0p (a1G _ _ fgC hvc a6r bxF _ a4F _ fgL hvl (by decide) b0F a4J R hR _ _ _ _ _ _ _ (a3I h41 R40) (a3H (a3K a5o) (by have:=hl41;exact Nat.le_trans this (by decide))) nV1 5) rfl rfl fun v43 I43 j43 q43=>?_
        try have hvc:=hvc.le j43
        try have hvl:=hvl.le j43
        try have R19:=R19.le j43
        try have R6:=R6.le j43
        try have hVa:=hVa.le j43
        try have hVb:=hVb.le j43
        try have h29:=h29.le j43
        try have h34:=h34.le j43
        try have h41:=h41.le j43
        try have R40:=R40.le j43
        obtain⟨k43,u43,t43,rfl,hV43⟩:=q43;refine dH 7 0 ?_;refine go 1 fun g9=>?_
        refine dH 8 0 ?_;refine a0Q _ he rfl rfl rfl rfl rfl (Enc.one (α:=Vdt) ⟨_,_,_,rfl,hV43⟩) ?_;refine go 3 ?_;refine a0u ?_;refine a0a ?_;exact a2y (_) (_) (_) (_) (_) trivial sb rfl rfl
       ·refine go 1 fun g9=>?_
        refine dH 6 0 ?_;refine a0p (a1G _ _ fgC hvc a6r bxF _ a4F _ fgL hvl (by decide) b0F a4J R hR _ _ _ _ _ _ _ (a3I h41 R40) (a3H (a3K a5o) (by have:=hl41;exact Nat.le_trans this (by decide))) nV1 5) rfl rfl fun v43 I43 j43 q43=>?_
        try have hvc:=hvc.le j43
        try have hvl:=hvl.le j43
        try have R19:=R19.le j43
        try have R6:=R6.le j43
        try have hVa:=hVa.le j43
        try have hVb:=hVb.le j43
        try have h29:=h29.le j43
        try have h34:=h34.le j43
        try have h41:=h41.le j43
        try have R40:=R40.le j43
        obtain⟨k43,u43,t43,rfl,hV43⟩:=q43;refine dH 8 0 ?_;refine a0Q _ he rfl rfl rfl rfl rfl (Enc.one (α:=Vdt) ⟨_,_,_,rfl,hV43⟩) ?_;refine go 3 ?_;refine a0u ?_;refine a0a ?_;exact a2y (_) (_) (_) (_) (_) trivial sb rfl rfl
      ·refine go 1 fun g9=>?_
       refine dH 4 0 ?_;refine a0p (a3S _ _ fgA R19 (by decide) a5o 5 9 _ _ R40) rfl rfl fun v41 I41 j41 q41=>?_
       try have hvc:=hvc.le j41
       try have hvl:=hvl.le j41
       try have R19:=R19.le j41
       try have R6:=R6.le j41
       try have hVa:=hVa.le j41
       try have hVb:=hVb.le j41
       try have h29:=h29.le j41
       try have h34:=h34.le j41
       try have h41:=h41.le j41
       try have R40:=R40.le j41
       obtain⟨w41,rfl,h41,hl41⟩:=q41;obtain⟨WA41,wc41,rfl,_,_,_⟩:=id h41;refine dH 6 0 ?_;refine a0p (a1G _ _ fgC hvc a6r bxF _ a4F _ fgL hvl (by decide) b0F a4J R hR _ _ _ _ _ _ _ (a3I h41 R40) (a3H (a3K a5o) (by have:=hl41;exact Nat.le_trans this (by decide))) nV1 5) rfl rfl fun v43 I43 j43 q43=>?_
       try have hvc:=hvc.le j43
       try have hvl:=hvl.le j43
       try have R19:=R19.le j43
       try have R6:=R6.le j43
       try have hVa:=hVa.le j43
       try have hVb:=hVb.le j43
       try have h29:=h29.le j43
       try have h34:=h34.le j43
       try have h41:=h41.le j43
       try have R40:=R40.le j43
       obtain⟨k43,u43,t43,rfl,hV43⟩:=q43;refine dH 8 0 ?_;refine a0Q _ he rfl rfl rfl rfl rfl (Enc.one (α:=Vdt) ⟨_,_,_,rfl,hV43⟩) ?_;refine go 3 ?_;refine a0u ?_;refine a0a ?_;exact a2y (_) (_) (_) (_) (_) trivial sb rfl rfl
     ·refine go 1 fun g9=>?_
      refine dH 3 0 ?_;refine go 1 fun v40=>?_
      refine a0i (l:=[(⟨nV1,nR,5⟩:Cnc)]) rfl rfl ((.one rfl)) fun I40 j40 R40=>?_
      try have hvc:=hvc.le j40
      try have hvl:=hvl.le j40
      try have R19:=R19.le j40
      try have R6:=R6.le j40
      try have hVa:=hVa.le j40
      try have hVb:=hVb.le j40
      try have h29:=h29.le j40
      try have h34:=h34.le j40
      try have h41:=h41.le j40
      try have R40:=R40.le j40
      refine dH 4 0 ?_;refine a0p (a3S _ _ fgA R19 (by decide) a5o 5 9 _ _ R40) rfl rfl fun v41 I41 j41 q41=>?_
      try have hvc:=hvc.le j41
      try have hvl:=hvl.le j41
      try have R19:=R19.le j41
      try have R6:=R6.le j41
      try have hVa:=hVa.le j41
      try have hVb:=hVb.le j41
      try have h29:=h29.le j41
      try have h34:=h34.le j41
      try have h41:=h41.le j41
      try have R40:=R40.le j41
      obtain⟨w41,rfl,h41,hl41⟩:=q41;obtain⟨WA41,wc41,rfl,_,_,_⟩:=id h41;refine dH 6 0 ?_;refine a0p (a1G _ _ fgC hvc a6r bxF _ a4F _ fgL hvl (by decide) b0F a4J R hR _ _ _ _ _ _ _ (a3I h41 R40) (a3H (a3K a5o) (by have:=hl41;exact Nat.le_trans this (by decide))) nV1 5) rfl rfl fun v43 I43 j43 q43=>?_
      try have hvc:=hvc.le j43
      try have hvl:=hvl.le j43
      try have R19:=R19.le j43
      try have R6:=R6.le j43
      try have hVa:=hVa.le j43
      try have hVb:=hVb.le j43
      try have h29:=h29.le j43
      try have h34:=h34.le j43
      try have h41:=h41.le j43
      try have R40:=R40.le j43
      obtain⟨k43,u43,t43,rfl,hV43⟩:=q43;refine dH 8 0 ?_;refine a0Q _ he rfl rfl rfl rfl rfl (Enc.one (α:=Vdt) ⟨_,_,_,rfl,hV43⟩) ?_;refine go 3 ?_;refine a0u ?_;refine a0a ?_;exact a2y (_) (_) (_) (_) (_) trivial sb rfl rfl
    ·intro J b9 k9 u9 t9 _;refine go 4 ?_;refine o_v rfl (OV.cast (u:=.bool true) (c3u rfl rfl) (congrArg Value.bool (decide_eq_true (d5z hR)))) ?_;refine go 3 ?_;refine a0A (a0q rfl rfl rfl (a0t rfl (OV.cast (u:=.bool true) (c3u rfl rfl) (congrArg Value.bool (decide_eq_true (d5A hR)))) ?_));refine go 4 ?_;refine a0A (a0q rfl rfl rfl (a0t rfl (OV.cast (u:=.bool true) (c3u rfl rfl) (congrArg Value.bool (decide_eq_true (d5B hR)))) ?_));refine go 6 ?_;exact q_i rfl
theorem c5m (I:IMap) (vc:Value) (c:List Kind) (hvc:RdS I vc c) (hoc:∀x∈c,d4F x) (f:Fm) (sf:Value) (hf:FmRd I [ci f.op,ci f.n,sf] f) (hof:OkFm f) (v:Value) (l:List Rep) (hv:RdS I v l) (hok:∀x∈l,d6t x) (va:Value) (am:List Amd) (hz:RdS I va am) (hoa:∀x∈am,a4R x.rule) (hbig:am.length * 144≤140737488351232) (late:Amd) (s3:Value) (hs3:RdS I s3 late.rule.cond.kids) (ho3:a4R late.rule) (a0:Int) (w0:(Lit.int .u8 a0).wf=true) (vn:ByteArray) (wvn:vn.size≤maxLen) (day:Int) (wday:(Lit.int .i64 day).wf=true) (clock:Int) (wclock:(Lit.int .i64 clock).wf=true)  :
    FnV Tryz.prog 3 #[.agg #[vc,ci f.op,ci f.n,sf],v,va,.agg (late.cs s3).toArray,.int .u8 a0,.string vn,.int .i64 (day),.int .i64 (clock)] I (.bool true):=by
 obtain⟨a,rfl,ha⟩:=d4i w0;have hv0:=hv;obtain⟨A,c0,rfl,hAl,hcl,hml⟩:=id hv;obtain⟨AA,ca,rfl,hA,hca,hma⟩:=id hz;obtain⟨S3,c3,rfl,_,_,_⟩:=id hs3;have ok18:∀x∈(am++[late]),a4R x.rule:=fun x hx=>(List.mem_append.1 hx).elim (hoa x) fun h=>by rw[List.mem_singleton.1 h];exact ho3
 have ok21:∀k,∀x∈(am.take k++[late]++am.drop k),a4R x.rule:=fun k x hx=>by
   simp only[List.mem_append,List.mem_singleton]at hx
   rcases hx with (hx|rfl)|hx
   · exact hoa x (List.mem_of_mem_take hx)
   · exact ho3
   · exact hoa x (List.mem_of_mem_drop hx)
 refine enter Tryz.func3 Tryz.call3 rfl Tryz.ntmps3 rfl fun w0=>?_;refine go 4 fun g8=>?_
 refine go 2 fun g11=>?_
 refine go 6 ?_;refine a0p (d4e _) rfl rfl fun v24 I24 j24 q24=>?_
 try have hvc:=hvc.le j24
 try have hf:=hf.le j24
 try have hv:=hv.le j24
 try have hz:=hz.le j24
 try have hA:=hA.le j24
 try have hs3:=hs3.le j24
 try have R31:=R31.le j24
 try have R79:=R79.le j24
 try have hVa:=hVa.le j24
 try have hVb:=hVb.le j24
 try have h84:=h84.le j24
 try have h93:=h93.le j24
 try have h126:=h126.le j24
 obtain rfl:=q24;refine go 4 ?_;refine a6z (Ix:=(fun v18 xs=>I24)) (Lx:=(fun v18 xs=>[(1,.slice A l.length c0),(2,.slice AA am.length ca),(4,.int .u8 ((a:Nat):Int)),(5,.string vn),(6,.int .i64 (day)),(7,.int .i64 (clock)),(8,.pointer (some ⟨g8,0,none⟩)),(11,.pointer (some ⟨g11,0,none⟩)),(17,.bool true),(18,v18)])) (Hx:=(fun v18 xs=>[.row v18 38 12 (am++[late]).length xs,.blk g11 38 (late.cs (.slice S3 late.rule.cond.kids.length c3)),.blk g8 29 [vc,ci f.op,ci f.n,sf]])) (p:=(fun v18 xs=>Flat I24 xs (am++[late]))) ?_ ?_
 ·refine a1J fun hE2 hf2=>?_;refine go 1 ?_;refine dG 1 1 ?_;refine dG 3 1 ?_;refine dT2 0 4 ?_ ?_
  ·refine go 1 fun v25=>?_
   refine go 1 ?_;refine dT2 2 4 ?_ ?_
   ·refine a1d (hz) rfl he he rfl rfl rfl rfl (by simp only[List.length_take,List.length_drop,List.length_append,List.length_singleton]at *;omega) (by simp only[List.length_take,List.length_drop,List.length_append,List.length_singleton]at *;omega) rfl fun v27 x27 f27=>?_;refine dH 4 0 ?_;refine go 1 fun v29=>?_
    refine dH 5 0 ?_;refine a0b ?_;refine a0z he he rfl rfl (Enc.one (α:=Amd) (x:=late) ⟨_,rfl,hs3⟩) rfl rfl (by simp only[List.length_take,List.length_drop,List.length_append,List.length_singleton]at *;omega) (by simp only[List.length_take,List.length_drop,List.length_append,List.length_singleton]at *;omega) rfl fun v30=>?_;refine a0J fun A30 c30 hv30=>?_;subst hv30;refine dG 6 1 ?_;refine go 2 ?_;refine a0b ?_;refine a0a ?_;exact a1U (_) (_) (f27.append (.one ⟨_,rfl,hs3⟩)) sb (by rw[List.length_append,Nat.zero_add];rfl) rfl
   ·refine go 1 fun v29=>?_
    refine dH 2 0 ?_;refine a0b ?_;refine a1d (hz) rfl he he rfl rfl rfl rfl (by simp only[List.length_take,List.length_drop,List.length_append,List.length_singleton]at *;omega) (by simp only[List.length_take,List.length_drop,List.length_append,List.length_singleton]at *;omega) rfl fun v27 x27 f27=>?_;refine dH 5 0 ?_;refine a0b ?_;refine a0b ?_;refine a0z he he rfl rfl (Enc.one (α:=Amd) (x:=late) ⟨_,rfl,hs3⟩) rfl rfl (by simp only[List.length_take,List.length_drop,List.length_append,List.length_singleton]at *;omega) (by simp only[List.length_take,List.length_drop,List.length_append,List.length_singleton]at *;omega) rfl fun v30=>?_;refine a0J fun A30 c30 hv30=>?_;subst hv30;refine dG 6 1 ?_;refine go 2 ?_;refine a0b ?_;refine a0a ?_;exact a1U (_) (_) (f27.append (.one ⟨_,rfl,hs3⟩)) sb (by rw[List.length_append,Nat.zero_add];rfl) rfl
  ·refine go 1 fun v29=>?_
   refine dH 0 0 ?_;refine go 1 fun v25=>?_
   refine dH 2 0 ?_;refine a1d (hz) rfl he he rfl rfl rfl rfl (by simp only[List.length_take,List.length_drop,List.length_append,List.length_singleton]at *;omega) (by simp only[List.length_take,List.length_drop,List.length_append,List.length_singleton]at *;omega) rfl fun v27 x27 f27=>?_;refine dH 5 0 ?_;refine a0b ?_;refine a0b ?_;refine a0z he he rfl rfl (Enc.one (α:=Amd) (x:=late) ⟨_,rfl,hs3⟩) rfl rfl (by simp only[List.length_take,List.length_drop,List.length_append,List.length_singleton]at *;omega) (by simp only[List.length_take,List.length_drop,List.length_append,List.length_singleton]at *;omega) rfl fun v30=>?_;refine a0J fun A30 c30 hv30=>?_;subst hv30;refine dG 6 1 ?_;refine go 2 ?_;refine a0b ?_;refine a0a ?_;exact a1U (_) (_) (f27.append (.one ⟨_,rfl,hs3⟩)) sb (by rw[List.length_append,Nat.zero_add];rfl) rfl
 ·intro v18 xs hF18;refine go 3 ?_;refine a0i (l:=(am++[late])) rfl rfl (hF18) fun I31 j31 R31=>?_
  try have hvc:=hvc.le j31
  try have hf:=hf.le j31
  try have hv:=hv.le j31
  try have hz:=hz.le j31
  try have hA:=hA.le j31
  try have hs3:=hs3.le j31
  try have R31:=R31.le j31
  try have R79:=R79.le j31
  try have hVa:=hVa.le j31
  try have hVb:=hVb.le j31
  try have h84:=h84.le j31
  try have h93:=h93.le j31
  try have h126:=h126.le j31
  obtain⟨A18,c18,rfl,_,_,_⟩:=id R31;refine go 4 ?_;refine a1n (c6i _ _ c hvc f _ hf _ l hv ⟨a0O,a0O,zXp⟩ _ RdS.nil' 10 oM) rfl rfl fun v34 q34=>?_;obtain⟨b34,rfl,hb34⟩:=q34;refine gS 2 36 (fun h36 p36=>?_) fun h36 p36=>?_
  ·refine go 21 ?_;exact a8p rfl
  ·refine go 2 ?_;refine a0q rfl rfl h36 (a1n (c6h _ _ (am++[late]) R31 8) rfl rfl (fun v38 q38=>?_));obtain⟨b38,rfl,hb38⟩:=q38;refine gS 3 41 (fun h41 p41=>?_) fun h41 p41=>?_
   ·refine go 16 ?_;exact a8p rfl
   ·refine gC 6 (fun h45 p45=>?_) fun h45 p45=>?_
    ·refine go 9 ?_;exact a8p rfl
    ·have e34:b34=true:=by simpa using h36
     have e38:b38=true:=by simpa using h41
     obtain⟨hf12,hfR,hw81⟩:=hb34 e34;have hsc:=(c4B (n:=0) hf12).1;obtain⟨hsl,hl10⟩:=b5k hfR;have h8:=hb38 e38;obtain⟨R,hR⟩:=b7L l;have hkk:(a % (am++[late]).length)<(am++[late]).length:=Nat.mod_lt _ (by simp);have hall:(am++[late]).length=am.length+1:=by simp
     have hkm:(a % (am++[late]).length)≤am.length:=oM;have hmx:(am.take (a % (am++[late]).length)++[late]++am.drop (a % (am++[late]).length)).length=am.length+1:=c9v _ hkm;refine go 9 ?_
     refine a0x (α:=Nat) (0:Nat) (fun i=>I31)
      (fun i=>[(1,.slice A l.length c0),(2,.slice AA am.length ca),(4,.int .u8 ((a:Nat):Int)),(5,.string vn),(6,.int .i64 (day)),(7,.int .i64 (clock)),(8,.pointer (some ⟨g8,0,none⟩)),(11,.pointer (some ⟨g11,0,none⟩)),(17,.bool true),(18,.slice A18 (am++[late]).length c18),(19,.int .i64 ((i:Nat):Int))])
      (fun i=>[.blk g11 38 (late.cs (.slice S3 late.rule.cond.kids.length c3)),.blk g8 29 [vc,ci f.op,ci f.n,sf]])
      (fun i=>i≤am.length∧∀x∈am.take i,x.clock≠late.clock)
      (fun i=>am.length-i) ⟨Nat.zero_le _,fun x hx=>by simp at hx⟩ rfl sb rfl ?_
     intro i ⟨hi,hne⟩;refine gC 9 (fun h50 p50=>?_) fun h50 p50=>?_
     ·have hlt:i<am.length:=oM;refine go 6 ?_;refine dG 0 2 ?_;obtain⟨b55,o55,w55,e55,c55,r55⟩:=RdA.at_ hA (i:=i) hlt;obtain⟨s55,rfl,hs55⟩:=r55;refine dG 2 6 ?_;refine gC 2 (fun h60 p60=>?_) fun h60 p60=>?_
      ·refine go 13 ?_;exact a8p rfl
      ·refine go 9 ?_;exact a0w (i+1) ⟨oM,c4g hlt hne p60⟩ oM rfl sb rfl
     ·obtain rfl:i=am.length:=oM;rw[List.take_length]at hne
      refine go 8 ?_;refine o_v rfl (a1K he he rfl (m:=((a:Nat):Int)) (by rw[IntKind.wrap_i64];omega)) ?_;refine go 2 ?_;refine o_v rfl (d6r rfl rfl oM oM) ?_;refine go 4 ?_;refine a6z (Ix:=(fun v21 ys=>I31)) (Lx:=(fun v21 ys=>[(1,.slice A l.length c0),(2,.slice AA am.length ca),(5,.string vn),(6,.int .i64 (day)),(7,.int .i64 (clock)),(8,.pointer (some ⟨g8,0,none⟩)),(11,.pointer (some ⟨g11,0,none⟩)),(17,.bool true),(18,.slice A18 (am++[late]).length c18),(20,.int .i64 (((a % (am++[late]).length):Nat):Int)),(21,v21)])) (Hx:=(fun v21 ys=>[.row v21 38 12 (am.take (a % (am++[late]).length)++[late]).length ys,.blk g11 38 (late.cs (.slice S3 late.rule.cond.kids.length c3)),.blk g8 29 [vc,ci f.op,ci f.n,sf]])) (p:=(fun v21 ys=>Flat I31 ys (am.take (a % (am++[late]).length)++[late]))) ?_ ?_
      ·refine go 1 ?_;refine dG 1 2 ?_;refine a0I 3 rfl rfl (by kernel_rfl) rfl (.refl _) rfl (a2e he rfl rfl (a % (am++[late]).length) oM oM) ?_;refine dG 5 1 ?_;refine dT2 0 6 ?_ ?_
       ·refine go 1 fun v67=>?_
        refine go 1 ?_;refine dT2 4 6 ?_ ?_
        ·refine a1d ((hz.takeM (a % (am++[late]).length) hkm)) rfl he he rfl rfl rfl rfl (by simp only[List.length_take,List.length_drop,List.length_append,List.length_singleton]at *;omega) (by simp only[List.length_take,List.length_drop,List.length_append,List.length_singleton]at *;omega) rfl fun v71 x71 f71=>?_;refine dH 6 0 ?_;refine go 1 fun v73=>?_
         refine dH 7 0 ?_;refine a0b ?_;refine a0z he he rfl rfl (Enc.one (α:=Amd) (x:=late) ⟨_,rfl,hs3⟩) rfl rfl (by simp only[List.length_take,List.length_drop,List.length_append,List.length_singleton]at *;omega) (by simp only[List.length_take,List.length_drop,List.length_append,List.length_singleton]at *;omega) rfl fun v74=>?_;refine a0J fun A74 c74 hv74=>?_;subst hv74;refine dG 8 1 ?_;refine go 2 ?_;refine a0b ?_;refine a0a ?_;exact a1U (_) (_) (f71.append (.one ⟨_,rfl,hs3⟩)) sb (by simp only[List.length_append,List.length_singleton,Nat.zero_add];rfl) rfl
        ·refine go 1 fun v73=>?_
         refine dH 4 0 ?_;refine a0b ?_;refine a1d ((hz.takeM (a % (am++[late]).length) hkm)) rfl he he rfl rfl rfl rfl (by simp only[List.length_take,List.length_drop,List.length_append,List.length_singleton]at *;omega) (by simp only[List.length_take,List.length_drop,List.length_append,List.length_singleton]at *;omega) rfl fun v71 x71 f71=>?_;refine dH 7 0 ?_;refine a0b ?_;refine a0b ?_;refine a0z he he rfl rfl (Enc.one (α:=Amd) (x:=late) ⟨_,rfl,hs3⟩) rfl rfl (by simp only[List.length_take,List.length_drop,List.length_append,List.length_singleton]at *;omega) (by simp only[List.length_take,List.length_drop,List.length_append,List.length_singleton]at *;omega) rfl fun v74=>?_;refine a0J fun A74 c74 hv74=>?_;subst hv74;refine dG 8 1 ?_;refine go 2 ?_;refine a0b ?_;refine a0a ?_;exact a1U (_) (_) (f71.append (.one ⟨_,rfl,hs3⟩)) sb (by simp only[List.length_append,List.length_singleton,Nat.zero_add];rfl) rfl
       ·refine go 1 fun v73=>?_
        refine dH 0 0 ?_;refine go 1 fun v67=>?_
        refine dH 4 0 ?_;refine a1d ((hz.takeM (a % (am++[late]).length) hkm)) rfl he he rfl rfl rfl rfl (by simp only[List.length_take,List.length_drop,List.length_append,List.length_singleton]at *;omega) (by simp only[List.length_take,List.length_drop,List.length_append,List.length_singleton]at *;omega) rfl fun v71 x71 f71=>?_;refine dH 7 0 ?_;refine a0b ?_;refine a0b ?_;refine a0z he he rfl rfl (Enc.one (α:=Amd) (x:=late) ⟨_,rfl,hs3⟩) rfl rfl (by simp only[List.length_take,List.length_drop,List.length_append,List.length_singleton]at *;omega) (by simp only[List.length_take,List.length_drop,List.length_append,List.length_singleton]at *;omega) rfl fun v74=>?_;refine a0J fun A74 c74 hv74=>?_;subst hv74;refine dG 8 1 ?_;refine go 2 ?_;refine a0b ?_;refine a0a ?_;exact a1U (_) (_) (f71.append (.one ⟨_,rfl,hs3⟩)) sb (by simp only[List.length_append,List.length_singleton,Nat.zero_add];rfl) rfl
      ·intro v21 ys hF21;refine go 5 ?_;refine o_v rfl (a0E he rfl rfl (a % (am++[late]).length) oM hkm) ?_;refine go 1 ?_;refine a1d ((hz.dropM (a % (am++[late]).length) hkm)) rfl he he rfl rfl rfl rfl (by simp only[List.length_take,List.length_drop,List.length_append,List.length_singleton];omega) (by simp only[List.length_take,List.length_drop,List.length_append,List.length_singleton];omega) rfl fun v79 x79 f79=>?_;refine a0i (l:=(am.take (a % (am++[late]).length)++[late]++am.drop (a % (am++[late]).length))) rfl (by simp only[List.length_append]) ((hF21.append f79)) fun I79 j79 R79=>?_
       try have hvc:=hvc.le j79
       try have hf:=hf.le j79
       try have hv:=hv.le j79
       try have hz:=hz.le j79
       try have hA:=hA.le j79
       try have hs3:=hs3.le j79
       try have R31:=R31.le j79
       try have R79:=R79.le j79
       try have hVa:=hVa.le j79
       try have hVb:=hVb.le j79
       try have h84:=h84.le j79
       try have h93:=h93.le j79
       try have h126:=h126.le j79
       obtain⟨A21,c21,rfl,_,_,_⟩:=id R79;refine go 4 ?_;refine a9n (Ix:=(fun J b22 k22 u22 t22=>J)) (Lx:=(fun J b22 k22 u22 t22=>[(1,.slice A l.length c0),(2,.slice AA am.length ca),(5,.string vn),(6,.int .i64 (day)),(7,.int .i64 (clock)),(8,.pointer (some ⟨g8,0,none⟩)),(11,.pointer (some ⟨g11,0,none⟩)),(17,.bool true),(21,.slice A21 (am.take (a % (am++[late]).length)++[late]++am.drop (a % (am++[late]).length)).length c21),(22,.pointer (some ⟨b22,0,none⟩))])) (Hx:=(fun J b22 k22 u22 t22=>[.blk b22 48 ((decR f c (fgB (inF (am++[late]) day clock) []) l (a3V l R vn) vn day).cs k22 u22 t22),.blk g11 38 (late.cs (.slice S3 late.rule.cond.kids.length c3)),.blk g8 29 [vc,ci f.op,ci f.n,sf]])) (p:=(fun J b22 k22 u22 t22=>ILe I79 J∧VdRd J k22 u22 t22 (decR f c (fgB (inF (am++[late]) day clock) []) l (a3V l R vn) vn day))) ?_ ?_
       ·refine a1J fun hE13 hf13=>?_;refine go 1 ?_;refine dG 0 4 ?_;refine dG 5 3 ?_;refine dT2 4 9 ?_ ?_
        ·refine a0p (a3S _ _ (am++[late]) R31 oM ok18 day clock _ _ RdS.nil') rfl rfl fun v84 I84 j84 q84=>?_
         try have hvc:=hvc.le j84
         try have hf:=hf.le j84
         try have hv:=hv.le j84
         try have hz:=hz.le j84
         try have hA:=hA.le j84
         try have hs3:=hs3.le j84
         try have R31:=R31.le j84
         try have R79:=R79.le j84
         try have hVa:=hVa.le j84
         try have hVb:=hVb.le j84
         try have h84:=h84.le j84
         try have h93:=h93.le j84
         try have h126:=h126.le j84
         obtain⟨w84,rfl,h84,hl84⟩:=q84;obtain⟨WA84,wc84,rfl,_,_,_⟩:=id h84;refine go 1 ?_;refine dT2 8 9 ?_ ?_
         ·refine a0p (a1G _ _ c hvc hsc f _ hf _ l hv oM hsl oM R hR _ _ _ _ _ _ _ (a3I h84 RdS.nil') (a3H (a3K ok18) oM) vn day) rfl rfl fun v88 I88 j88 q88=>?_
          try have hvc:=hvc.le j88
          try have hf:=hf.le j88
          try have hv:=hv.le j88
          try have hz:=hz.le j88
          try have hA:=hA.le j88
          try have hs3:=hs3.le j88
          try have R31:=R31.le j88
          try have R79:=R79.le j88
          try have hVa:=hVa.le j88
          try have hVb:=hVb.le j88
          try have h84:=h84.le j88
          try have h93:=h93.le j88
          try have h126:=h126.le j88
          obtain⟨k88,u88,t88,rfl,hV88⟩:=q88;refine dH 9 0 ?_;refine go 1 fun g22=>?_
          refine dH 10 0 ?_;refine a0Q _ he rfl rfl rfl rfl rfl (Enc.one (α:=Vdt) ⟨_,_,_,rfl,hV88⟩) ?_;refine go 3 ?_;exact a2y (_) (_) (_) (_) (_) ⟨j84.trans j88,hV88⟩ sb rfl rfl
         ·refine go 1 fun g22=>?_
          refine dH 8 0 ?_;refine a0p (a1G _ _ c hvc hsc f _ hf _ l hv oM hsl oM R hR _ _ _ _ _ _ _ (a3I h84 RdS.nil') (a3H (a3K ok18) oM) vn day) rfl rfl fun v88 I88 j88 q88=>?_
          try have hvc:=hvc.le j88
          try have hf:=hf.le j88
          try have hv:=hv.le j88
          try have hz:=hz.le j88
          try have hA:=hA.le j88
          try have hs3:=hs3.le j88
          try have R31:=R31.le j88
          try have R79:=R79.le j88
          try have hVa:=hVa.le j88
          try have hVb:=hVb.le j88
          try have h84:=h84.le j88
          try have h93:=h93.le j88
          try have h126:=h126.le j88
          obtain⟨k88,u88,t88,rfl,hV88⟩:=q88;refine dH 10 0 ?_;refine a0Q _ he rfl rfl rfl rfl rfl (Enc.one (α:=Vdt) ⟨_,_,_,rfl,hV88⟩) ?_;refine go 3 ?_;exact a2y (_) (_) (_) (_) (_) ⟨j84.trans j88,hV88⟩ sb rfl rfl
        ·refine go 1 fun g22=>?_
         refine dH 4 0 ?_;refine a0p (a3S _ _ (am++[late]) R31 oM ok18 day clock _ _ RdS.nil') rfl rfl fun v84 I84 j84 q84=>?_
         try have hvc:=hvc.le j84
         try have hf:=hf.le j84
         try have hv:=hv.le j84
         try have hz:=hz.le j84
         try have hA:=hA.le j84
         try have hs3:=hs3.le j84
         try have R31:=R31.le j84
         try have R79:=R79.le j84
         try have hVa:=hVa.le j84
         try have hVb:=hVb.le j84
         try have h84:=h84.le j84
         try have h93:=h93.le j84
         try have h126:=h126.le j84
         obtain⟨w84,rfl,h84,hl84⟩:=q84;obtain⟨WA84,wc84,rfl,_,_,_⟩:=id h84;refine dH 8 0 ?_;refine a0p (a1G _ _ c hvc hsc f _ hf _ l hv oM hsl oM R hR _ _ _ _ _ _ _ (a3I h84 RdS.nil') (a3H (a3K ok18) oM) vn day) rfl rfl fun v88 I88 j88 q88=>?_
         try have hvc:=hvc.le j88
         try have hf:=hf.le j88
         try have hv:=hv.le j88
         try have hz:=hz.le j88
         try have hA:=hA.le j88
         try have hs3:=hs3.le j88
         try have R31:=R31.le j88
         try have R79:=R79.le j88
         try have hVa:=hVa.le j88
         try have hVb:=hVb.le j88
         try have h84:=h84.le j88
         try have h93:=h93.le j88
         try have h126:=h126.le j88
         obtain⟨k88,u88,t88,rfl,hV88⟩:=q88;refine dH 10 0 ?_;refine a0Q _ he rfl rfl rfl rfl rfl (Enc.one (α:=Vdt) ⟨_,_,_,rfl,hV88⟩) ?_;refine go 3 ?_;exact a2y (_) (_) (_) (_) (_) ⟨j84.trans j88,hV88⟩ sb rfl rfl
       ·intro J b22 k22 u22 t22 ⟨hJ,hVa⟩;have hvc:=hvc.le hJ;have hf:=hf.le hJ;have hv:=hv.le hJ;have hz:=hz.le hJ;have R79:=R79.le hJ;refine go 1 ?_;refine a9n (Ix:=(fun J2 b23 k23 u23 t23=>J2)) (Lx:=(fun J2 b23 k23 u23 t23=>[(1,.slice A l.length c0),(2,.slice AA am.length ca),(5,.string vn),(6,.int .i64 (day)),(7,.int .i64 (clock)),(8,.pointer (some ⟨g8,0,none⟩)),(11,.pointer (some ⟨g11,0,none⟩)),(17,.bool true),(22,.pointer (some ⟨b22,0,none⟩)),(23,.pointer (some ⟨b23,0,none⟩))])) (Hx:=(fun J2 b23 k23 u23 t23=>[.blk b23 48 ((decR f c (fgB (inF (am.take (a % (am++[late]).length)++[late]++am.drop (a % (am++[late]).length)) day clock) []) l (a3V l R vn) vn day).cs k23 u23 t23),.blk b22 48 ((decR f c (fgB (inF (am++[late]) day clock) []) l (a3V l R vn) vn day).cs k22 u22 t22),.blk g11 38 (late.cs (.slice S3 late.rule.cond.kids.length c3)),.blk g8 29 [vc,ci f.op,ci f.n,sf]])) (p:=(fun J2 b23 k23 u23 t23=>ILe J J2∧VdRd J2 k23 u23 t23 (decR f c (fgB (inF (am.take (a % (am++[late]).length)++[late]++am.drop (a % (am++[late]).length)) day clock) []) l (a3V l R vn) vn day))) ?_ ?_
        ·refine a1J fun hE14 hf14=>?_;refine go 1 ?_;refine dG 0 4 ?_;refine dG 5 3 ?_;refine dT2 4 9 ?_ ?_
         ·refine a0p (a3S _ _ (am.take (a % (am++[late]).length)++[late]++am.drop (a % (am++[late]).length)) R79 oM (ok21 _) day clock _ _ RdS.nil') rfl rfl fun v93 I93 j93 q93=>?_
          try have hvc:=hvc.le j93
          try have hf:=hf.le j93
          try have hv:=hv.le j93
          try have hz:=hz.le j93
          try have hA:=hA.le j93
          try have hs3:=hs3.le j93
          try have R31:=R31.le j93
          try have R79:=R79.le j93
          try have hVa:=hVa.le j93
          try have hVb:=hVb.le j93
          try have h84:=h84.le j93
          try have h93:=h93.le j93
          try have h126:=h126.le j93
          obtain⟨w93,rfl,h93,hl93⟩:=q93;obtain⟨WA93,wc93,rfl,_,_,_⟩:=id h93;refine go 1 ?_;refine dT2 8 9 ?_ ?_
          ·refine a0p (a1G _ _ c hvc hsc f _ hf _ l hv oM hsl oM R hR _ _ _ _ _ _ _ (a3I h93 RdS.nil') (a3H (a3K (ok21 _)) oM) vn day) rfl rfl fun v97 I97 j97 q97=>?_
           try have hvc:=hvc.le j97
           try have hf:=hf.le j97
           try have hv:=hv.le j97
           try have hz:=hz.le j97
           try have hA:=hA.le j97
           try have hs3:=hs3.le j97
           try have R31:=R31.le j97
           try have R79:=R79.le j97
           try have hVa:=hVa.le j97
           try have hVb:=hVb.le j97
           try have h84:=h84.le j97
           try have h93:=h93.le j97
           try have h126:=h126.le j97
           obtain⟨k97,u97,t97,rfl,hV97⟩:=q97;refine dH 9 0 ?_;refine go 1 fun g23=>?_
           refine dH 10 0 ?_;refine a0Q _ he rfl rfl rfl rfl rfl (Enc.one (α:=Vdt) ⟨_,_,_,rfl,hV97⟩) ?_;refine go 3 ?_;exact a2y (_) (_) (_) (_) (_) ⟨j93.trans j97,hV97⟩ sb rfl rfl
          ·refine go 1 fun g23=>?_
           refine dH 8 0 ?_;refine a0p (a1G _ _ c hvc hsc f _ hf _ l hv oM hsl oM R hR _ _ _ _ _ _ _ (a3I h93 RdS.nil') (a3H (a3K (ok21 _)) oM) vn day) rfl rfl fun v97 I97 j97 q97=>?_
           try have hvc:=hvc.le j97
           try have hf:=hf.le j97
           try have hv:=hv.le j97
           try have hz:=hz.le j97
           try have hA:=hA.le j97
           try have hs3:=hs3.le j97
           try have R31:=R31.le j97
           try have R79:=R79.le j97
           try have hVa:=hVa.le j97
           try have hVb:=hVb.le j97
           try have h84:=h84.le j97
           try have h93:=h93.le j97
           try have h126:=h126.le j97
           obtain⟨k97,u97,t97,rfl,hV97⟩:=q97;refine dH 10 0 ?_;refine a0Q _ he rfl rfl rfl rfl rfl (Enc.one (α:=Vdt) ⟨_,_,_,rfl,hV97⟩) ?_;refine go 3 ?_;exact a2y (_) (_) (_) (_) (_) ⟨j93.trans j97,hV97⟩ sb rfl rfl
         ·refine go 1 fun g23=>?_
          refine dH 4 0 ?_;refine a0p (a3S _ _ (am.take (a % (am++[late]).length)++[late]++am.drop (a % (am++[late]).length)) R79 oM (ok21 _) day clock _ _ RdS.nil') rfl rfl fun v93 I93 j93 q93=>?_
          try have hvc:=hvc.le j93
          try have hf:=hf.le j93
          try have hv:=hv.le j93
          try have hz:=hz.le j93
          try have hA:=hA.le j93
          try have hs3:=hs3.le j93
          try have R31:=R31.le j93
          try have R79:=R79.le j93
          try have hVa:=hVa.le j93
          try have hVb:=hVb.le j93
          try have h84:=h84.le j93
          try have h93:=h93.le j93
          try have h126:=h126.le j93
          obtain⟨w93,rfl,h93,hl93⟩:=q93;obtain⟨WA93,wc93,rfl,_,_,_⟩:=id h93;refine dH 8 0 ?_;refine a0p (a1G _ _ c hvc hsc f _ hf _ l hv oM hsl oM R hR _ _ _ _ _ _ _ (a3I h93 RdS.nil') (a3H (a3K (ok21 _)) oM) vn day) rfl rfl fun v97 I97 j97 q97=>?_
          try have hvc:=hvc.le j97
          try have hf:=hf.le j97
          try have hv:=hv.le j97
          try have hz:=hz.le j97
          try have hA:=hA.le j97
          try have hs3:=hs3.le j97
          try have R31:=R31.le j97
          try have R79:=R79.le j97
          try have hVa:=hVa.le j97
          try have hVb:=hVb.le j97
          try have h84:=h84.le j97
          try have h93:=h93.le j97
          try have h126:=h126.le j97
          obtain⟨k97,u97,t97,rfl,hV97⟩:=q97;refine dH 10 0 ?_;refine a0Q _ he rfl rfl rfl rfl rfl (Enc.one (α:=Vdt) ⟨_,_,_,rfl,hV97⟩) ?_;refine go 3 ?_;exact a2y (_) (_) (_) (_) (_) ⟨j93.trans j97,hV97⟩ sb rfl rfl
        ·intro J2 b23 k23 u23 t23 ⟨hJ2,hVb⟩;have hvc:=hvc.le hJ2;have hf:=hf.le hJ2;have hv:=hv.le hJ2;have hz:=hz.le hJ2;have hVa:=hVa.le hJ2;rw[c9t hne]at hVb ⊢
         refine go 6 ?_;refine cV (b4w _ (decR f c (fgB (inF (am++[late]) day clock) []) l (a3V l R vn) vn day) _ _ _ _ _ _ hVa hVb) ?_;refine go 8 ?_;refine a1N (I':=J2) (L':=[(1,.slice A l.length c0),(2,.slice AA am.length ca),(5,.string vn),(6,.int .i64 (day)),(7,.int .i64 (clock)),(8,.pointer (some ⟨g8,0,none⟩)),(11,.pointer (some ⟨g11,0,none⟩)),(17,.bool true),(22,.pointer (some ⟨b22,0,none⟩)),(117,.bool ((decide (late.clock≤clock)&&decide (late.frm≤day))&&decide (day≤late.to)))]) (H':=[.blk b22 48 ((decR f c (fgB (inF (am++[late]) day clock) []) l (a3V l R vn) vn day).cs k22 u22 t22),.blk g8 29 [vc,ci f.op,ci f.n,sf]]) ?_ ?_
         ·refine gS 6 106 (fun h106 p106=>?_) fun h106 p106=>?_
          ·refine gS 6 112 (fun h112 p112=>?_) fun h112 p112=>?_
           ·refine go 7 ?_;refine a0a ?_;refine a0b ?_;refine a0a ?_;exact a0o ⟨rfl,rfl,rfl,rfl,rfl,rfl,rfl,rfl,rfl,(bB (by simp only[h106,h112,bS])),trivial⟩ rfl rfl
           ·refine go 7 ?_;refine a0a ?_;refine a0b ?_;refine a0a ?_;exact a0o ⟨rfl,rfl,rfl,rfl,rfl,rfl,rfl,rfl,rfl,(bB (by simp only[h106,h112,bS])),trivial⟩ rfl rfl
          ·refine go 13 ?_;refine a0a ?_;refine a0b ?_;refine a0a ?_;exact a0o ⟨rfl,rfl,rfl,rfl,rfl,rfl,rfl,rfl,rfl,(bB (by simp only[h106,bS])),trivial⟩ rfl rfl
         ·refine gC 0 (fun h117 p117=>?_) fun h117 p117=>?_
          ·refine go 9 ?_;exact a8p rfl
          ·have hin:=d2H (l:=am) (day:=day) (clock:=clock) (a:=late) (d1V h117);refine go 3 ?_;refine a1J fun hE19 hf19=>?_;refine go 1 ?_;refine dG 0 7 ?_;refine dG 8 3 ?_;refine dH 7 0 ?_;refine a0q rfl rfl rfl (a0p (a3S _ _ am hz oM hoa day clock _ _ RdS.nil') rfl rfl (fun v126 I126 j126 q126=>?_))
           try have hvc:=hvc.le j126
           try have hf:=hf.le j126
           try have hv:=hv.le j126
           try have hz:=hz.le j126
           try have hA:=hA.le j126
           try have hs3:=hs3.le j126
           try have R31:=R31.le j126
           try have R79:=R79.le j126
           try have hVa:=hVa.le j126
           try have hVb:=hVb.le j126
           try have h84:=h84.le j126
           try have h93:=h93.le j126
           try have h126:=h126.le j126
           obtain⟨w126,rfl,h126,hl126⟩:=q126;obtain⟨WA126,wc126,rfl,_,_,_⟩:=id h126;refine dH 11 0 ?_;refine a0q rfl rfl rfl (a0p (a1G _ _ c hvc hsc f _ hf _ l hv oM hsl oM R hR _ _ _ _ _ _ _ (a3I h126 RdS.nil') (a3H (a3K hoa) oM) vn day) rfl rfl (fun v130 I130 j130 q130=>?_))
           try have hvc:=hvc.le j130
           try have hf:=hf.le j130
           try have hv:=hv.le j130
           try have hz:=hz.le j130
           try have hA:=hA.le j130
           try have hs3:=hs3.le j130
           try have R31:=R31.le j130
           try have R79:=R79.le j130
           try have hVa:=hVa.le j130
           try have hVb:=hVb.le j130
           try have h84:=h84.le j130
           try have h93:=h93.le j130
           try have h126:=h126.le j130
           obtain⟨k130,u130,t130,rfl,hV130⟩:=q130;rw[←hin]at hV130 ⊢
           refine dH 12 0 ?_;refine a0q rfl rfl rfl (a0v ((b4w _ (decR f c (fgB (inF (am++[late]) day clock) []) l (a3V l R vn) vn day) _ _ _ _ _ _ (by first|exact hVa|exact hVa.le j130) hV130)) rfl rfl ?_);refine dG 13 2 ?_;refine go 4 ?_;exact a8p rfl
end Go.Proofs.YtgmkjpafapgccaaGreat
namespace Go.Proofs.YtgmkjpafapgccaaGreat
open Go Go.Sx
set_option linter.all false
theorem T.byt_38:Tryz.prog.bytesOf 38=144:=by kernel_rfl
theorem T.cel_109:Tryz.prog.cellsOf 109=2:=by kernel_rfl
theorem T.cel_128:Tryz.prog.cellsOf 128=6:=by kernel_rfl
theorem T.cel_130:Tryz.prog.cellsOf 130=14:=by kernel_rfl
theorem T.cel_149:Tryz.prog.cellsOf 149=3:=by kernel_rfl
theorem T.cel_189:Tryz.prog.cellsOf 189=3:=by kernel_rfl
theorem T.cel_24:Tryz.prog.cellsOf 24=1:=by kernel_rfl
theorem T.cel_27:Tryz.prog.cellsOf 27=3:=by kernel_rfl
theorem T.cel_29:Tryz.prog.cellsOf 29=4:=by kernel_rfl
theorem T.cel_34:Tryz.prog.cellsOf 34=6:=by kernel_rfl
theorem T.cel_36:Tryz.prog.cellsOf 36=8:=by kernel_rfl
theorem T.cel_38:Tryz.prog.cellsOf 38=12:=by kernel_rfl
theorem T.cel_81:Tryz.prog.cellsOf 81=2:=by kernel_rfl
theorem T.cel_9:Tryz.prog.cellsOf 9=1:=by kernel_rfl
instance T.fds_109:Has (a0W Tryz.prog 109) [(72,0,1),(4,1,1)]:=hk
instance T.fds_128:Has (a0W Tryz.prog 128) [(81,0,2),(81,2,2),(81,4,2)]:=hk
instance T.fds_130:Has (a0W Tryz.prog 130) [(3,0,1),(3,1,1),(9,2,1),(9,3,1),(9,4,1),(9,5,1),(9,6,1),(9,7,1),(128,8,6)]:=hk
instance T.fds_149:Has (a0W Tryz.prog 149) [(9,0,1),(4,1,1),(147,2,1)]:=hk
instance T.fds_189:Has (a0W Tryz.prog 189) [(9,0,1),(88,1,1),(3,2,1)]:=hk
instance T.fds_24:Has (a0W Tryz.prog 24) [(22,0,1)]:=hk
instance T.fds_27:Has (a0W Tryz.prog 27) [(3,0,1),(3,1,1),(25,2,1)]:=hk
instance T.fds_29:Has (a0W Tryz.prog 29) [(24,0,1),(27,1,3)]:=hk
instance T.fds_34:Has (a0W Tryz.prog 34) [(3,0,1),(9,1,1),(9,2,1),(3,3,1),(3,4,1),(32,5,1)]:=hk
instance T.fds_36:Has (a0W Tryz.prog 36) [(9,0,1),(9,1,1),(34,2,6)]:=hk
instance T.fds_38:Has (a0W Tryz.prog 38) [(3,0,1),(3,1,1),(3,2,1),(4,3,1),(36,4,8)]:=hk
instance T.fds_81:Has (a0W Tryz.prog 81) [(3,0,1),(3,1,1)]:=hk
namespace lawTopLate
open Go.ChangeShapes Go.WideShapes Go.ChangeAt Go.RowKit Go.ChangeMaps Go.MapKept
theorem own:ownKnob Tryz.prog.godebug=none:=by kernel_rfl
set_option maxRecDepth 100000 in
theorem lifted (os:Os) (started:os.Started) (H:Type) (enc:TypeId×Value→H) :
  ReturnsInHanded {} Tryz.checked os 3 .any (Rows.topLateSpec.pre6 enc Tryz.prog Tryz.f3 Rows.topLateRow.domain false) (Rows.topLateSpec.post enc Tryz.prog Tryz.f3 false true false false):=by
 refine returnsInHanded_of_change_sized (C:=Tryz.checked) own started (by kernel_rfl) Tryz.func3
  (ChangeSpec.witness6 (enc:=enc) (C:=Tryz.checked) false ⟨#[],#[.agg #[.slice none 0 0,.int .i64 0,.int .i64 0,.slice none 0 0],.slice none 0 0,.slice none 0 0,.agg #[.int .i64 0,.int .i64 0,.int .i64 0,.bool false,.string ⟨#[]⟩,.string ⟨#[]⟩,.int .i64 0,.string ⟨#[]⟩,.string ⟨#[]⟩,.int .i64 0,.int .i64 0,.slice none 0 0],.int .u8 0,.string ⟨#[]⟩,.int .i64 0,.int .i64 0],[]⟩ 8 (by kernel_rfl) (by kernel_rfl) (by kernel_rfl) (by kernel_rfl)) ?_
 intro W base args ds gs before hval0 hW hcnd hsz _;have hval:∀(j:Nat) t v,Tryz.f3.params[j]? = some t→args[j]? = some v→Value.okWide Tryz.prog W .any base t v:=hval0;have hW':=hW;obtain⟨p,q,hA0,hV,rfl,hfz,hnd⟩:=hW;have hA:DataW.TrodAll enc Tryz.prog W 0 (fun _=>true) true Tryz.f3.params.toList args.toList ds p:=hA0;rw[Tryz.params3]at hA hval
 obtain⟨v0,vs0,d0,ds0,p0,q0,hargs,rfl,rfl,h0,r0⟩:=trodAll_cons hA;obtain⟨v1,vs1,d1,ds1,p1,q1,rfl,rfl,rfl,h1,r1⟩:=trodAll_cons r0;obtain⟨v2,vs2,d2,ds2,p2,q2,rfl,rfl,rfl,h2,r2⟩:=trodAll_cons r1;obtain⟨v3,vs3,d3,ds3,p3,q3,rfl,rfl,rfl,h3,r3⟩:=trodAll_cons r2;obtain⟨v4,vs4,d4,ds4,p4,q4,rfl,rfl,rfl,h4,r4⟩:=trodAll_cons r3;obtain⟨v5,vs5,d5,ds5,p5,q5,rfl,rfl,rfl,h5,r5⟩:=trodAll_cons r4;obtain⟨v6,vs6,d6,ds6,p6,q6,rfl,rfl,rfl,h6,r6⟩:=trodAll_cons r5;obtain⟨v7,vs7,d7,ds7,p7,q7,rfl,rfl,rfl,h7,r7⟩:=trodAll_cons r6;obtain⟨rfl,rfl,rfl⟩:=trodAll_nil r7;obtain rfl:args=#[v0,v1,v2,v3,v4,v5,v6,v7]:=by cases args;simp_all
 obtain⟨rfl,rfl⟩:=trodVars_none hV;clear hA0 hval0;obtain⟨cs0,rfl,hz0⟩:=b1y T.fds_29.eq (hval 0 29 v0 rfl rfl);obtain⟨fu0,hf0⟩:=h0;obtain⟨x0,⟨vc0,sf0,e0,R0,F0⟩,G0⟩:=(b5Q T.fds_29.eq T.cel_29 (b9e T.fds_24.eq T.cel_24 (a3r T.und_22.eq T.cel_149 rfl (b9c T.fds_149.eq T.cel_149 (a1X T.und_9.eq) (a6a T.und_4.eq) (a3r T.und_147.eq T.cel_189 rfl (b9d T.fds_189.eq T.cel_189 (a1X T.und_9.eq) (a3r T.und_88.eq T.cel_9 rfl (a1X T.und_9.eq)) (a2D T.und_3.eq)))))) (b9b T.fds_27.eq T.cel_27 T.und_25.eq T.und_3.eq)) enc W 0 _ true fu0 _ _ hf0;obtain rfl:cs0=#[vc0,ci x0.dam.op,ci x0.dam.n,sf0]:=Array.toList_inj.1 e0;obtain⟨s1,n1,c1,rfl⟩:=okWide_slice T.und_30.eq (hval 1 30 v1 rfl rfl);obtain⟨fu1,hf1⟩:=h1;obtain⟨l1,⟨u1,e1,R1⟩,G1⟩:=(a3r T.und_30.eq T.cel_109 rfl (c1U T.fds_109.eq T.cel_109 (a3r T.und_72.eq T.cel_130 rfl (c1S T.fds_130.eq T.cel_130 (a2D T.und_3.eq) (a1X T.und_9.eq) (c1V T.fds_128.eq T.cel_128 (c1T T.fds_81.eq T.cel_81 (a2D T.und_3.eq))))) (a6a T.und_4.eq))) enc W 0 _ true fu1 _ _ hf1
 cases e1
 obtain⟨s2,n2,c2,rfl⟩:=okWide_slice T.und_31.eq (hval 2 31 v2 rfl rfl);obtain⟨fu2,hf2⟩:=h2;obtain⟨l2,⟨u2,e2,R2⟩,G2⟩:=(a3r T.und_31.eq T.cel_38 rfl (b4f T.fds_38.eq T.cel_38 (a2D T.und_3.eq) (a6a T.und_4.eq) (b4g T.fds_36.eq T.cel_36 (a1X T.und_9.eq) (b1A T.fds_34.eq T.cel_34 T.und_32.eq T.und_3.eq (a1X T.und_9.eq))))) enc W 0 _ true fu2 _ _ hf2
 cases e2
 have hb2:=c2N (j:=2) hsz (by kernel_rfl) rfl T.und_31.eq hf2 T.byt_38;rw[show n2=l2.length by obtain⟨_,_,e,_⟩:=R2;cases e;rfl]at hb2
 obtain⟨cs3,rfl,hz3⟩:=b1y T.fds_38.eq (hval 3 38 v3 rfl rfl);obtain⟨fu3,hf3⟩:=h3;obtain⟨x3,⟨s3,e3,R3⟩,G3⟩:=(b4f T.fds_38.eq T.cel_38 (a2D T.und_3.eq) (a6a T.und_4.eq) (b4g T.fds_36.eq T.cel_36 (a1X T.und_9.eq) (b1A T.fds_34.eq T.cel_34 T.und_32.eq T.und_3.eq (a1X T.und_9.eq)))) enc W 0 _ true fu3 _ _ hf3;obtain rfl:cs3=(x3.cs s3).toArray:=Array.toList_inj.1 e3;obtain⟨a4,rfl,rfl,rfl,w4⟩:=open_int T.und_5.eq (hval 4 5 v4 rfl rfl) h4;obtain⟨a5,rfl,rfl,rfl,w5⟩:=open_string T.und_9.eq (hval 5 9 v5 rfl rfl) h5;obtain⟨a6,rfl,rfl,rfl,w6⟩:=open_int T.und_3.eq (hval 6 3 v6 rfl rfl) h6;obtain⟨a7,rfl,rfl,rfl,w7⟩:=open_int T.und_3.eq (hval 7 3 v7 rfl rfl) h7;exact c1y (s:=Rows.topLateSpec) Tryz.call3 (c5m (Iw W) vc0 x0.kinds R0 G0.1 x0.dam sf0 F0 G0.2 _ l1 R1 G1 _ l2 R2 G2 hb2 x3 s3 R3 G3 a4 w4 a5 w5 a6 w6 a7 w7) hW' (by kernel_rfl) (by kernel_rfl) rfl T.und_4.eq rfl rfl
end lawTopLate
end Go.Proofs.YtgmkjpafapgccaaGreat
