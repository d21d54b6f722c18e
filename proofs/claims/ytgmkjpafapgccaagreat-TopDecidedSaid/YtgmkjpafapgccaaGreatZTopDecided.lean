
import Derived.Test.YtgmkjpafapgccaaGreatZTdg
import Derived.ChangeMaps5
import Derived.OpenShut
import Derived.ProofKit
import Derived.Test.YtgmkjpafapgccaaGreatRows
namespace Go.Proofs.YtgmkjpafapgccaaGreat
open Go Go.Sx
set_option linter.all false
set_option maxRecDepth 20000
set_option maxHeartbeats 4000000
instance T.by_38:Has (a2e Tryz.prog 38) ([.int .i64 0,.int .i64 0,.int .i64 0,.bool false,.string ⟨#[]⟩,.string ⟨#[]⟩,.int .i64 0,.string ⟨#[]⟩,.string ⟨#[]⟩,.int .i64 0,.int .i64 0,.slice none 0 0],12,144):=hk
instance T.pl_102:Has (plK Tryz.prog 102) [(0,1),(1,1),(2,1)]:=hk
instance T.pl_109:Has (plK Tryz.prog 109) [(0,1),(1,1)]:=hk
instance T.pl_24:Has (plK Tryz.prog 24) [(0,1)]:=hk
instance T.pl_27:Has (plK Tryz.prog 27) [(0,1),(1,1),(2,1)]:=hk
instance T.pl_29:Has (plK Tryz.prog 29) [(0,1),(1,3)]:=hk
instance T.pl_38:Has (plK Tryz.prog 38) [(0,1),(1,1),(2,1),(3,1),(4,8)]:=hk
instance T.pl_56:Has (plK Tryz.prog 56) [(0,1),(1,1),(2,1),(3,1),(4,1),(5,1)]:=hk
instance T.zero_24:Has (a1n Tryz.prog 24) [.slice none 0 0]:=hk
instance T.zero_29:Has (a1n Tryz.prog 29) [.slice none 0 0,.int .i64 0,.int .i64 0,.slice none 0 0]:=hk
instance T.zero_56:Has (a1n Tryz.prog 56) [.slice none 0 0,.slice none 0 0,.slice none 0 0,.slice none 0 0,.slice none 0 0,.slice none 0 0]:=hk
theorem a5L (I:IMap) (k:Int) :
    FnI Tryz.prog 89 #[.int .i64 (k)] I (fun q J=>∃A n,q = .agg #[.slice A 1 n,.slice none 0 0,.slice none 0 0,.slice none 0 0,.slice none 0 0,.slice none 0 0]∧RdS J (.slice A 1 n) [cfR k]):=by
 refine enter Tryz.func89 Tryz.call89 rfl Tryz.ntmps89 rfl fun w0=>?_;refine go 4 fun g2=>?_
 refine go 9 fun v6=>?_
 refine a0k (l:=[cfR k]) rfl rfl ((.one ⟨_,rfl,RdS.nil'⟩)) fun I6 j6 R6=>?_;obtain⟨A6,c6,rfl,_,_,_⟩:=id R6;refine go 7 ?_;exact q_i ⟨_,_,rfl,R6⟩
theorem d3q (I:IMap) (d n:Int) :
    FnV Tryz.prog 181 #[.int .i64 (d),.int .i64 (n)] I (.agg (a9V d n).cells.toArray):=by
 refine enter Tryz.func181 Tryz.call181 rfl Tryz.ntmps181 rfl fun w0=>?_;refine go 4 fun g4=>?_
 refine go 16 ?_;exact q_v rfl
theorem d6y (I:IMap) :
    FnI Tryz.prog 88 #[] I (fun u J=>∃vc v,u = .tuple #[.agg #[vc,.int .i64 (2),.int .i64 (0),.slice none 0 0],v]∧RdS J vc cfC∧RdS J v cfL):=by
 refine enter Tryz.func88 Tryz.call88 rfl Tryz.ntmps88 rfl fun w0=>?_;refine go 4 fun g0=>?_
 refine go 7 fun v5=>?_
 refine a0k (l:=[b0B]) rfl rfl ((.one rfl)) fun I5 j5 R5=>?_
 try have R5:=R5.le j5
 try have R7:=R7.le j5
 try have R11:=R11.le j5
 obtain⟨A5,c5,rfl,_,_,_⟩:=id R5;refine go 3 fun v7=>?_
 refine a0k (l:=[(⟨b0B,[b0B],1⟩:Slot)]) rfl rfl ((.one ⟨_,rfl,R5⟩)) fun I7 j7 R7=>?_
 try have R5:=R5.le j7
 try have R7:=R7.le j7
 try have R11:=R11.le j7
 obtain⟨A7,c7,rfl,_,_,_⟩:=id R7;refine go 10 fun v11=>?_
 refine a0k (l:=cfC) rfl rfl ((.cons ⟨_,rfl,RdS.nil'⟩ (.one ⟨_,rfl,R7⟩))) fun I11 j11 R11=>?_
 try have R5:=R5.le j11
 try have R7:=R7.le j11
 try have R11:=R11.le j11
 obtain⟨A11,c11,rfl,_,_,_⟩:=id R11;refine go 5 fun g3=>?_
 refine go 5 ?_;refine b7t (L':=[(0,.pointer (some ⟨g0,0,none⟩)),(3,.pointer (some ⟨g3,0,none⟩)),(4,.func (.func 181) #[] #[])]) ?_ ?_
 ·refine go 4 ?_;exact a0o sb rfl rfl
 ·refine go 1 ?_;refine a0b ?_;refine a1G fun hE4 hf4=>?_;refine ds1 ?_;refine dG 0 1 ?_;refine a0E 1 rfl rfl (by kernel_rfl) rfl (.cons _ (.refl _)) rfl (OV.cast (u:=.agg bxMade.cells.toArray) (b1d (pl:=[(0,1),(1,1),(2,1),(3,1),(4,1),(5,1),(6,1),(7,1),(8,6)]) he he rfl rfl) rfl) ?_;refine dG 4 1 ?_;refine dG 8 1 ?_;refine d6K (H1:=[.blk g0 29 [.slice A11 cfC.length c11,.int .i64 (2),.int .i64 (0),.slice none 0 0],.blk g3 29 [.slice A11 cfC.length c11,.int .i64 (2),.int .i64 (0),.slice none 0 0]]) [⟨2,17,[],fun J v=>RdS J v [bxMade]⟩,⟨3,18,[(2,17)],fun J v=>∃s,v = .agg #[s,.bool false]∧RdS J s [bxMade]⟩,⟨5,20,[],fun J v=>v = .agg (a9V 1 8).cells.toArray⟩,⟨6,21,[(5,20)],fun J v=>RdS J v [a9V 1 8]⟩,⟨7,22,[(6,21)],fun J v=>∃s,v = .agg #[s,.bool false]∧RdS J s [a9V 1 8]⟩,⟨9,24,[],fun J v=>v = .agg (a9V 2 5).cells.toArray⟩,⟨10,25,[(9,24)],fun J v=>RdS J v [a9V 2 5]⟩,⟨11,26,[(10,25)],fun J v=>∃s,v = .agg #[s,.bool true]∧RdS J s [a9V 2 5]⟩,⟨12,27,[(3,18),(7,22),(11,26)],fun J v=>RdS J v cfL⟩,⟨14,1,[(12,27)],fun J v=>RdS J v cfL⟩] (some 13) (by kernel_rfl) ⟨fun I1 I2 v hI h=>h.le hI,fun I1 I2 v hI ⟨s,e,h⟩=>⟨s,e,h.le hI⟩,fun I1 I2 v hI h=>h,fun I1 I2 v hI h=>h.le hI,fun I1 I2 v hI ⟨s,e,h⟩=>⟨s,e,h.le hI⟩,fun I1 I2 v hI h=>h,fun I1 I2 v hI h=>h.le hI,fun I1 I2 v hI ⟨s,e,h⟩=>⟨s,e,h.le hI⟩,fun I1 I2 v hI h=>h.le hI,fun I1 I2 v hI h=>h.le hI,trivial⟩ (by repeat' first|exact trivial|refine⟨rfl,?_⟩) (fun i h=>by cases h;rfl) (fun I2 w hI m=>m.keepsI (.cons _ (.refl _)) hI hE4 hf4) (fun i h=>by cases h;exact fun I2 w hI m=>m.keepsI (.cons _ (.refl _)) hI hE4 hf4) ⟨?_,?_,?_,?_,?_,?_,?_,?_,?_,?_,trivial⟩ ?_ ?_
  ·intro I2 V X H o hI ho hd K k
   cases ho
   simp only[Bit.pre,List.map_nil,List.nil_append,List.cons_append]at k ⊢
   refine (a3W he he rfl rfl rfl rfl rfl rfl rfl (fun v17=>?_));refine a0k (l:=[bxMade]) rfl rfl ((.one rfl)) fun I17 j17 R17=>?_;exact k _ _ (j17) (R17)
  ·intro I2 V X H o hI ho hd K k
   cases ho
   obtain⟨e17,e18,e20,e21,e22,e24,e25,e26,e27,e1,_⟩:=hd;have f17:=e17 rfl;revert k
   show (∀v I3,ILe I2 I3→_→SX _ _ _ (_::((17,V 2)::(_++_))) _ _)→SX _ _ _ ((17,V 2)::(_++_)) _ _
   obtain⟨A17,c17,hq17,_⟩:=id f17;rw[hq17]at f17 ⊢
   intro k;refine a0q rfl (b1d (pl:=[(0,1),(1,1)]) he he rfl rfl) ?_;exact k _ _ (ILe.refl _) (⟨_,rfl,f17⟩)
  ·intro I2 V X H o hI ho hd K k
   cases ho
   refine cV (d3q _ 1 8) ?_;exact k _ _ (ILe.refl _) (rfl)
  ·intro I2 V X H o hI ho hd K k
   cases ho
   obtain⟨e17,e18,e20,e21,e22,e24,e25,e26,e27,e1,_⟩:=hd;have f20:=e20 rfl;revert k
   show (∀v I3,ILe I2 I3→_→SX _ _ _ (_::((20,V 5)::(_++_))) _ _)→SX _ _ _ ((20,V 5)::(_++_)) _ _
   simp only[Bit.pre,List.map_nil,List.map_cons,List.nil_append,List.cons_append]
   rw[f20];intro k;refine (a3W he he rfl rfl rfl rfl rfl rfl rfl (fun v21=>?_));refine a0k (l:=[a9V 1 8]) rfl rfl ((.one rfl)) fun I21 j21 R21=>?_;exact k _ _ (j21) (R21)
  ·intro I2 V X H o hI ho hd K k
   cases ho
   obtain⟨e17,e18,e20,e21,e22,e24,e25,e26,e27,e1,_⟩:=hd;have f21:=e21 rfl;revert k
   show (∀v I3,ILe I2 I3→_→SX _ _ _ (_::((21,V 6)::(_++_))) _ _)→SX _ _ _ ((21,V 6)::(_++_)) _ _
   obtain⟨A21,c21,hq21,_⟩:=id f21;rw[hq21]at f21 ⊢
   intro k;refine a0q rfl (b1d (pl:=[(0,1),(1,1)]) he he rfl rfl) ?_;exact k _ _ (ILe.refl _) (⟨_,rfl,f21⟩)
  ·intro I2 V X H o hI ho hd K k
   cases ho
   refine cV (d3q _ 2 5) ?_;exact k _ _ (ILe.refl _) (rfl)
  ·intro I2 V X H o hI ho hd K k
   cases ho
   obtain⟨e17,e18,e20,e21,e22,e24,e25,e26,e27,e1,_⟩:=hd;have f24:=e24 rfl;revert k
   show (∀v I3,ILe I2 I3→_→SX _ _ _ (_::((24,V 9)::(_++_))) _ _)→SX _ _ _ ((24,V 9)::(_++_)) _ _
   simp only[Bit.pre,List.map_nil,List.map_cons,List.nil_append,List.cons_append]
   rw[f24];intro k;refine (a3W he he rfl rfl rfl rfl rfl rfl rfl (fun v25=>?_));refine a0k (l:=[a9V 2 5]) rfl rfl ((.one rfl)) fun I25 j25 R25=>?_;exact k _ _ (j25) (R25)
  ·intro I2 V X H o hI ho hd K k
   cases ho
   obtain⟨e17,e18,e20,e21,e22,e24,e25,e26,e27,e1,_⟩:=hd;have f25:=e25 rfl;revert k
   show (∀v I3,ILe I2 I3→_→SX _ _ _ (_::((25,V 10)::(_++_))) _ _)→SX _ _ _ ((25,V 10)::(_++_)) _ _
   obtain⟨A25,c25,hq25,_⟩:=id f25;rw[hq25]at f25 ⊢
   intro k;refine a0q rfl (b1d (pl:=[(0,1),(1,1)]) he he rfl rfl) ?_;exact k _ _ (ILe.refl _) (⟨_,rfl,f25⟩)
  ·intro I2 V X H o hI ho hd K k
   cases ho
   obtain⟨e17,e18,e20,e21,e22,e24,e25,e26,e27,e1,_⟩:=hd;have f18:=e18 rfl;have f22:=e22 rfl;have f26:=e26 rfl;revert k
   show (∀v I3,ILe I2 I3→_→SX _ _ _ (_::((18,V 3)::(22,V 7)::(26,V 11)::(_++_))) _ _)→SX _ _ _ ((18,V 3)::(22,V 7)::(26,V 11)::(_++_)) _ _
   simp only[Bit.pre,List.map_nil,List.map_cons,List.nil_append,List.cons_append]
   obtain⟨s18,h18,r18⟩:=f18;obtain⟨A18,c18,hq18,_⟩:=id r18;rw[hq18]at r18 h18
   rw[h18];obtain⟨s22,h22,r22⟩:=f22;obtain⟨A22,c22,hq22,_⟩:=id r22;rw[hq22]at r22 h22
   rw[h22];obtain⟨s26,h26,r26⟩:=f26;obtain⟨A26,c26,hq26,_⟩:=id r26;rw[hq26]at r26 h26
   rw[h26];intro k;refine (a3W he he rfl rfl rfl rfl rfl rfl rfl (fun v27=>?_));refine b3J (ys:=[.slice A18 1 c18,.bool false]++([.slice A22 1 c22,.bool false]++[.slice A26 1 c26,.bool true])) (rfl) ?_;refine a0k (l:=cfL) rfl rfl ((.cons ⟨_,rfl,r18⟩ (.cons ⟨_,rfl,r22⟩ (.one ⟨_,rfl,r26⟩)))) fun I27 j27 R27=>?_;exact k _ _ (j27) (R27)
  ·intro I2 V X H o hI ho hd K k
   cases ho
   obtain⟨e17,e18,e20,e21,e22,e24,e25,e26,e27,e1,_⟩:=hd;have f27:=e27 rfl;revert k
   show (∀v I3,ILe I2 I3→_→SX _ _ _ (_::((27,V 12)::(_++_))) _ _)→SX _ _ _ ((27,V 12)::(_++_)) _ _
   intro k;refine a0q rfl (b3L rfl) ?_;exact k _ _ (ILe.refl _) (f27)
  ·intro i h
   cases h
   intro I2 X o hI ho K k
   cases ho
   refine (a1d _ he rfl rfl rfl rfl rfl rfl ?_);exact k
  ·intro I2 V hI hp;obtain⟨e17,e18,e20,e21,e22,e24,e25,e26,e27,e1,_⟩:=hp
   try have R11:=R11.le hI
   refine go 3 ?_;exact q_i ⟨_,_,rfl,R11,e1⟩
theorem d3o (I:IMap) :
    FnI Tryz.prog 30 #[] I (fun u J=>u = .bool true):=by
 refine enter Tryz.func30 Tryz.call30 rfl Tryz.ntmps30 rfl fun w0=>?_;refine go 8 ?_;refine a0p (d6y _) rfl rfl fun v6 I6 j6 q6=>?_
 try have hvc:=hvc.le j6
 try have hvl:=hvl.le j6
 try have hVa:=hVa.le j6
 try have hVb:=hVb.le j6
 try have h10:=h10.le j6
 try have h14:=h14.le j6
 try have h22:=h22.le j6
 try have h29:=h29.le j6
 try have h42:=h42.le j6
 try have h49:=h49.le j6
 obtain⟨vc,v,rfl,hvc,hvl⟩:=q6;obtain⟨CA,cc,rfl,_,_,_⟩:=id hvc;obtain⟨LA,lc,rfl,_,_,_⟩:=id hvl;obtain⟨R,hR⟩:=b8G cfL;refine go 5 fun g1=>?_
 refine go 6 ?_;refine c1h (Ix:=(fun J b3 k3 u3 t3=>J)) (Lx:=(fun J b3 k3 u3 t3=>[(1,.pointer (some ⟨g1,0,none⟩)),(2,.slice LA cfL.length lc),(3,.pointer (some ⟨b3,0,none⟩))])) (Hx:=(fun J b3 k3 u3 t3=>[.blk b3 48 ((decR bxF cfC (fgB [cfR 13] []) cfL (a1c cfL R nV1) nV1 5).cs k3 u3 t3),.blk g1 29 [.slice CA cfC.length cc,.int .i64 (2),.int .i64 (0),.slice none 0 0]])) (p:=(fun J b3 k3 u3 t3=>ILe I6 J∧VdRd J k3 u3 t3 (decR bxF cfC (fgB [cfR 13] []) cfL (a1c cfL R nV1) nV1 5))) ?_ ?_
 ·refine a1G fun hE2 hf2=>?_;refine go 1 ?_;refine dG 0 1 ?_;refine dG 2 1 ?_;refine dT2 1 4 ?_ ?_
  ·refine a0p (a5L _ 13) rfl rfl fun v10 I10 j10 q10=>?_
   try have hvc:=hvc.le j10
   try have hvl:=hvl.le j10
   try have hVa:=hVa.le j10
   try have hVb:=hVb.le j10
   try have h10:=h10.le j10
   try have h14:=h14.le j10
   try have h22:=h22.le j10
   try have h29:=h29.le j10
   try have h42:=h42.le j10
   try have h49:=h49.le j10
   obtain⟨A10,n10,rfl,h10⟩:=q10;refine go 1 ?_;refine dT2 3 4 ?_ ?_
   ·refine a0p (a5w _ _ cfC hvc a6G bxF _ a4L _ cfL hvl (by decide) b1p a5M R hR _ _ _ _ _ _ _ (a6K h10 RdS.nil') (a6F 13 ⟨by decide,by decide⟩) nV1 5) rfl rfl fun v12 I12 j12 q12=>?_
    try have hvc:=hvc.le j12
    try have hvl:=hvl.le j12
    try have hVa:=hVa.le j12
    try have hVb:=hVb.le j12
    try have h10:=h10.le j12
    try have h14:=h14.le j12
    try have h22:=h22.le j12
    try have h29:=h29.le j12
    try have h42:=h42.le j12
    try have h49:=h49.le j12
    obtain⟨k12,u12,t12,rfl,hV12⟩:=q12;refine dH 4 0 ?_;refine go 1 fun g3=>?_
    refine dH 5 0 ?_;refine a1d _ he rfl rfl rfl rfl rfl (Enc.one (α:=Vdt) ⟨_,_,_,rfl,hV12⟩) ?_;refine go 3 ?_;exact a8A (_) (_) (_) (_) (_) ⟨j10.trans j12,hV12⟩ sb rfl rfl
   ·refine go 1 fun g3=>?_
    refine dH 3 0 ?_;refine a0p (a5w _ _ cfC hvc a6G bxF _ a4L _ cfL hvl (by decide) b1p a5M R hR _ _ _ _ _ _ _ (a6K h10 RdS.nil') (a6F 13 ⟨by decide,by decide⟩) nV1 5) rfl rfl fun v12 I12 j12 q12=>?_
    try have hvc:=hvc.le j12
    try have hvl:=hvl.le j12
    try have hVa:=hVa.le j12
    try have hVb:=hVb.le j12
    try have h10:=h10.le j12
    try have h14:=h14.le j12
    try have h22:=h22.le j12
    try have h29:=h29.le j12
    try have h42:=h42.le j12
    try have h49:=h49.le j12
    obtain⟨k12,u12,t12,rfl,hV12⟩:=q12;refine dH 5 0 ?_;refine a1d _ he rfl rfl rfl rfl rfl (Enc.one (α:=Vdt) ⟨_,_,_,rfl,hV12⟩) ?_;refine go 3 ?_;exact a8A (_) (_) (_) (_) (_) ⟨j10.trans j12,hV12⟩ sb rfl rfl
  ·refine go 1 fun g3=>?_
   refine dH 1 0 ?_;refine a0p (a5L _ 13) rfl rfl fun v10 I10 j10 q10=>?_
   try have hvc:=hvc.le j10
   try have hvl:=hvl.le j10
   try have hVa:=hVa.le j10
   try have hVb:=hVb.le j10
   try have h10:=h10.le j10
   try have h14:=h14.le j10
   try have h22:=h22.le j10
   try have h29:=h29.le j10
   try have h42:=h42.le j10
   try have h49:=h49.le j10
   obtain⟨A10,n10,rfl,h10⟩:=q10;refine dH 3 0 ?_;refine a0p (a5w _ _ cfC hvc a6G bxF _ a4L _ cfL hvl (by decide) b1p a5M R hR _ _ _ _ _ _ _ (a6K h10 RdS.nil') (a6F 13 ⟨by decide,by decide⟩) nV1 5) rfl rfl fun v12 I12 j12 q12=>?_
   try have hvc:=hvc.le j12
   try have hvl:=hvl.le j12
   try have hVa:=hVa.le j12
   try have hVb:=hVb.le j12
   try have h10:=h10.le j12
   try have h14:=h14.le j12
   try have h22:=h22.le j12
   try have h29:=h29.le j12
   try have h42:=h42.le j12
   try have h49:=h49.le j12
   obtain⟨k12,u12,t12,rfl,hV12⟩:=q12;refine dH 5 0 ?_;refine a1d _ he rfl rfl rfl rfl rfl (Enc.one (α:=Vdt) ⟨_,_,_,rfl,hV12⟩) ?_;refine go 3 ?_;exact a8A (_) (_) (_) (_) (_) ⟨j10.trans j12,hV12⟩ sb rfl rfl
 ·intro J b3 k3 u3 t3 ⟨hJ,hVa⟩;have hvc:=hvc.le hJ;have hvl:=hvl.le hJ;refine go 1 ?_;refine c1h (Ix:=(fun J2 b4 k4 u4 t4=>J2)) (Lx:=(fun J2 b4 k4 u4 t4=>[(1,.pointer (some ⟨g1,0,none⟩)),(2,.slice LA cfL.length lc),(3,.pointer (some ⟨b3,0,none⟩)),(4,.pointer (some ⟨b4,0,none⟩))])) (Hx:=(fun J2 b4 k4 u4 t4=>[.blk b4 48 ((decR bxF cfC (fgB [cfR 10] []) cfL (a1c cfL R nV1) nV1 5).cs k4 u4 t4),.blk b3 48 ((decR bxF cfC (fgB [cfR 13] []) cfL (a1c cfL R nV1) nV1 5).cs k3 u3 t3),.blk g1 29 [.slice CA cfC.length cc,.int .i64 (2),.int .i64 (0),.slice none 0 0]])) (p:=(fun J2 b4 k4 u4 t4=>ILe J J2∧VdRd J2 k4 u4 t4 (decR bxF cfC (fgB [cfR 10] []) cfL (a1c cfL R nV1) nV1 5))) ?_ ?_
  ·refine a1G fun hE3 hf3=>?_;refine go 1 ?_;refine dG 0 1 ?_;refine dG 2 1 ?_;refine dT2 1 4 ?_ ?_
   ·refine a0p (a5L _ 10) rfl rfl fun v14 I14 j14 q14=>?_
    try have hvc:=hvc.le j14
    try have hvl:=hvl.le j14
    try have hVa:=hVa.le j14
    try have hVb:=hVb.le j14
    try have h10:=h10.le j14
    try have h14:=h14.le j14
    try have h22:=h22.le j14
    try have h29:=h29.le j14
    try have h42:=h42.le j14
    try have h49:=h49.le j14
    obtain⟨A14,n14,rfl,h14⟩:=q14;refine go 1 ?_;refine dT2 3 4 ?_ ?_
    ·refine a0p (a5w _ _ cfC hvc a6G bxF _ a4L _ cfL hvl (by decide) b1p a5M R hR _ _ _ _ _ _ _ (a6K h14 RdS.nil') (a6F 10 ⟨by decide,by decide⟩) nV1 5) rfl rfl fun v16 I16 j16 q16=>?_
     try have hvc:=hvc.le j16
     try have hvl:=hvl.le j16
     try have hVa:=hVa.le j16
     try have hVb:=hVb.le j16
     try have h10:=h10.le j16
     try have h14:=h14.le j16
     try have h22:=h22.le j16
     try have h29:=h29.le j16
     try have h42:=h42.le j16
     try have h49:=h49.le j16
     obtain⟨k16,u16,t16,rfl,hV16⟩:=q16;refine dH 4 0 ?_;refine go 1 fun g4=>?_
     refine dH 5 0 ?_;refine a1d _ he rfl rfl rfl rfl rfl (Enc.one (α:=Vdt) ⟨_,_,_,rfl,hV16⟩) ?_;refine go 3 ?_;exact a8A (_) (_) (_) (_) (_) ⟨j14.trans j16,hV16⟩ sb rfl rfl
    ·refine go 1 fun g4=>?_
     refine dH 3 0 ?_;refine a0p (a5w _ _ cfC hvc a6G bxF _ a4L _ cfL hvl (by decide) b1p a5M R hR _ _ _ _ _ _ _ (a6K h14 RdS.nil') (a6F 10 ⟨by decide,by decide⟩) nV1 5) rfl rfl fun v16 I16 j16 q16=>?_
     try have hvc:=hvc.le j16
     try have hvl:=hvl.le j16
     try have hVa:=hVa.le j16
     try have hVb:=hVb.le j16
     try have h10:=h10.le j16
     try have h14:=h14.le j16
     try have h22:=h22.le j16
     try have h29:=h29.le j16
     try have h42:=h42.le j16
     try have h49:=h49.le j16
     obtain⟨k16,u16,t16,rfl,hV16⟩:=q16;refine dH 5 0 ?_;refine a1d _ he rfl rfl rfl rfl rfl (Enc.one (α:=Vdt) ⟨_,_,_,rfl,hV16⟩) ?_;refine go 3 ?_;exact a8A (_) (_) (_) (_) (_) ⟨j14.trans j16,hV16⟩ sb rfl rfl
   ·refine go 1 fun g4=>?_
    refine dH 1 0 ?_;refine a0p (a5L _ 10) rfl rfl fun v14 I14 j14 q14=>?_
    try have hvc:=hvc.le j14
    try have hvl:=hvl.le j14
    try have hVa:=hVa.le j14
    try have hVb:=hVb.le j14
    try have h10:=h10.le j14
    try have h14:=h14.le j14
    try have h22:=h22.le j14
    try have h29:=h29.le j14
    try have h42:=h42.le j14
    try have h49:=h49.le j14
    obtain⟨A14,n14,rfl,h14⟩:=q14;refine dH 3 0 ?_;refine a0p (a5w _ _ cfC hvc a6G bxF _ a4L _ cfL hvl (by decide) b1p a5M R hR _ _ _ _ _ _ _ (a6K h14 RdS.nil') (a6F 10 ⟨by decide,by decide⟩) nV1 5) rfl rfl fun v16 I16 j16 q16=>?_
    try have hvc:=hvc.le j16
    try have hvl:=hvl.le j16
    try have hVa:=hVa.le j16
    try have hVb:=hVb.le j16
    try have h10:=h10.le j16
    try have h14:=h14.le j16
    try have h22:=h22.le j16
    try have h29:=h29.le j16
    try have h42:=h42.le j16
    try have h49:=h49.le j16
    obtain⟨k16,u16,t16,rfl,hV16⟩:=q16;refine dH 5 0 ?_;refine a1d _ he rfl rfl rfl rfl rfl (Enc.one (α:=Vdt) ⟨_,_,_,rfl,hV16⟩) ?_;refine go 3 ?_;exact a8A (_) (_) (_) (_) (_) ⟨j14.trans j16,hV16⟩ sb rfl rfl
  ·intro J2 b4 k4 u4 t4 ⟨hJ2,hVb⟩;have hvc:=hvc.le hJ2;have hvl:=hvl.le hJ2;have hVa:=hVa.le hJ2;refine go 1 ?_;refine a1G fun hE4 hf4=>?_;refine go 1 ?_;refine dG 0 2 ?_;refine a0E 2 rfl rfl (by kernel_rfl) rfl (.refl _) rfl (OV.cast (u:=.bool true) (c0E rfl rfl) (congrArg Value.bool (decide_eq_true (c9A hR)))) ?_;refine dG 3 2 ?_;refine dG 6 2 ?_;refine dH 5 0 ?_;refine a0n rfl rfl rfl (a0p (a5L _ 13) rfl rfl (fun v22 I22 j22 q22=>?_))
   try have hvc:=hvc.le j22
   try have hvl:=hvl.le j22
   try have hVa:=hVa.le j22
   try have hVb:=hVb.le j22
   try have h10:=h10.le j22
   try have h14:=h14.le j22
   try have h22:=h22.le j22
   try have h29:=h29.le j22
   try have h42:=h42.le j22
   try have h49:=h49.le j22
   obtain⟨A22,n22,rfl,h22⟩:=q22;refine dH 8 0 ?_;refine a0n rfl rfl rfl (a0p (a5l _ _ cfC hvc a6G bxF _ a4L _ cfL hvl (by decide) b1p R hR _ _ _ _ _ _ _ (a6K h22 RdS.nil') (a6F 13 ⟨by decide,by decide⟩) nV1 5 _ _ _ _ hVa) rfl rfl (fun v25 I25 j25 q25=>?_))
   try have hvc:=hvc.le j25
   try have hvl:=hvl.le j25
   try have hVa:=hVa.le j25
   try have hVb:=hVb.le j25
   try have h10:=h10.le j25
   try have h14:=h14.le j25
   try have h22:=h22.le j25
   try have h29:=h29.le j25
   try have h42:=h42.le j25
   try have h49:=h49.le j25
   obtain rfl:=q25;rw[d6A hR];refine dG 9 3 ?_;refine dG 13 2 ?_;refine dH 12 0 ?_;refine a0n rfl rfl rfl (a0p (a5L _ 10) rfl rfl (fun v29 I29 j29 q29=>?_))
   try have hvc:=hvc.le j29
   try have hvl:=hvl.le j29
   try have hVa:=hVa.le j29
   try have hVb:=hVb.le j29
   try have h10:=h10.le j29
   try have h14:=h14.le j29
   try have h22:=h22.le j29
   try have h29:=h29.le j29
   try have h42:=h42.le j29
   try have h49:=h49.le j29
   obtain⟨A29,n29,rfl,h29⟩:=q29;refine dH 15 0 ?_;refine a0n rfl rfl rfl (a0p (a5l _ _ cfC hvc a6G bxF _ a4L _ cfL hvl (by decide) b1p R hR _ _ _ _ _ _ _ (a6K h29 RdS.nil') (a6F 10 ⟨by decide,by decide⟩) nV1 5 _ _ _ _ hVa) rfl rfl (fun v32 I32 j32 q32=>?_))
   try have hvc:=hvc.le j32
   try have hvl:=hvl.le j32
   try have hVa:=hVa.le j32
   try have hVb:=hVb.le j32
   try have h10:=h10.le j32
   try have h14:=h14.le j32
   try have h22:=h22.le j32
   try have h29:=h29.le j32
   try have h42:=h42.le j32
   try have h49:=h49.le j32
   obtain rfl:=q32;rw[d6C hR];refine c8y (fun _ m=>m.keepsI (.refl _) ((((j22).trans j25).trans j29).trans j32) hE4 hf4) ?_;refine d_t 16 rfl rfl (by kernel_rfl) rfl (fun _ m=>m.keepsI (.refl _) ((((j22).trans j25).trans j29).trans j32) hE4 hf4) (a1u rfl rfl rfl (b5D rfl)) ?_;refine d_t 17 rfl rfl (by kernel_rfl) rfl (fun _ m=>m.keepsI (.refl _) ((((j22).trans j25).trans j29).trans j32) hE4 hf4) (y_v rfl (a8K rfl rfl rfl)) ?_;refine d_t 18 rfl rfl (by kernel_rfl) rfl (fun _ m=>m.keepsI (.refl _) ((((j22).trans j25).trans j29).trans j32) hE4 hf4) (y_v rfl (a8X rfl)) ?_;refine d_t 19 rfl rfl (by kernel_rfl) rfl (fun _ m=>m.keepsI (.refl _) ((((j22).trans j25).trans j29).trans j32) hE4 hf4) (a1u rfl rfl rfl (b1e he rfl)) ?_;refine d_t 20 rfl rfl (by kernel_rfl) rfl (fun _ m=>m.keepsI (.refl _) ((((j22).trans j25).trans j29).trans j32) hE4 hf4) (a1u rfl rfl rfl (b1f m0 he rfl rfl)) ?_;refine d_t 21 rfl rfl (by kernel_rfl) rfl (fun _ m=>m.keepsI (.refl _) ((((j22).trans j25).trans j29).trans j32) hE4 hf4) (a1u rfl rfl rfl (OV.cast (u:=.bool true) (c0E rfl rfl) (congrArg Value.bool (decide_eq_true (c9B hR))))) ?_;refine d_t 22 rfl rfl (by kernel_rfl) rfl (fun _ m=>m.keepsI (.refl _) ((((j22).trans j25).trans j29).trans j32) hE4 hf4) (y_v rfl (a8K rfl rfl rfl)) ?_;refine d_t 23 rfl rfl (by kernel_rfl) rfl (fun _ m=>m.keepsI (.refl _) ((((j22).trans j25).trans j29).trans j32) hE4 hf4) (y_v rfl (a8X rfl)) ?_;refine d_t 24 rfl rfl (by kernel_rfl) rfl (fun _ m=>m.keepsI (.refl _) ((((j22).trans j25).trans j29).trans j32) hE4 hf4) (a1u rfl rfl rfl (a2y m2 he rfl rfl)) ?_;refine d_t 26 rfl rfl (by kernel_rfl) rfl (fun _ m=>m.keepsI (.refl _) ((((j22).trans j25).trans j29).trans j32) hE4 hf4) (a1u rfl rfl rfl (a8X rfl)) ?_;refine d_t 27 rfl rfl (by kernel_rfl) rfl (fun _ m=>m.keepsI (.refl _) ((((j22).trans j25).trans j29).trans j32) hE4 hf4) (a1u rfl rfl rfl (a2y m0 he rfl rfl)) ?_;refine dH 25 0 ?_;refine a0n rfl rfl rfl (a0p (a5L _ 10) rfl rfl (fun v42 I42 j42 q42=>?_))
   try have hvc:=hvc.le j42
   try have hvl:=hvl.le j42
   try have hVa:=hVa.le j42
   try have hVb:=hVb.le j42
   try have h10:=h10.le j42
   try have h14:=h14.le j42
   try have h22:=h22.le j42
   try have h29:=h29.le j42
   try have h42:=h42.le j42
   try have h49:=h49.le j42
   obtain⟨A42,n42,rfl,h42⟩:=q42;refine c8y (fun _ m=>m.keepsI (.refl _) (((((j22).trans j25).trans j29).trans j32).trans j42) hE4 hf4) ?_;refine dH 28 0 ?_;refine a0n rfl rfl rfl (a0p (a5l _ _ cfC hvc a6G bxF _ a4L _ cfL hvl (by decide) b1p R hR _ _ _ _ _ _ _ (a6K h42 RdS.nil') (a6F 10 ⟨by decide,by decide⟩) nV1 5 _ _ _ _ hVb) rfl rfl (fun v45 I45 j45 q45=>?_))
   try have hvc:=hvc.le j45
   try have hvl:=hvl.le j45
   try have hVa:=hVa.le j45
   try have hVb:=hVb.le j45
   try have h10:=h10.le j45
   try have h14:=h14.le j45
   try have h22:=h22.le j45
   try have h29:=h29.le j45
   try have h42:=h42.le j45
   try have h49:=h49.le j45
   obtain rfl:=q45;rw[d6B hR];refine c8y (fun _ m=>m.keepsI (.refl _) ((((((j22).trans j25).trans j29).trans j32).trans j42).trans j45) hE4 hf4) ?_;refine d_t 29 rfl rfl (by kernel_rfl) rfl (fun _ m=>m.keepsI (.refl _) ((((((j22).trans j25).trans j29).trans j32).trans j42).trans j45) hE4 hf4) (y_v rfl (a8K rfl rfl rfl)) ?_;refine d_t 30 rfl rfl (by kernel_rfl) rfl (fun _ m=>m.keepsI (.refl _) ((((((j22).trans j25).trans j29).trans j32).trans j42).trans j45) hE4 hf4) (y_v rfl (a8X rfl)) ?_;refine d_t 31 rfl rfl (by kernel_rfl) rfl (fun _ m=>m.keepsI (.refl _) ((((((j22).trans j25).trans j29).trans j32).trans j42).trans j45) hE4 hf4) (a1u rfl rfl rfl (a2y m2 he rfl rfl)) ?_;refine d_t 33 rfl rfl (by kernel_rfl) rfl (fun _ m=>m.keepsI (.refl _) ((((((j22).trans j25).trans j29).trans j32).trans j42).trans j45) hE4 hf4) (a1u rfl rfl rfl (a8X rfl)) ?_;refine d_t 34 rfl rfl (by kernel_rfl) rfl (fun _ m=>m.keepsI (.refl _) ((((((j22).trans j25).trans j29).trans j32).trans j42).trans j45) hE4 hf4) (a1u rfl rfl rfl (a2y m0 he rfl rfl)) ?_;refine dH 32 0 ?_;refine a0n rfl rfl rfl (a0p (a5L _ 13) rfl rfl (fun v49 I49 j49 q49=>?_))
   try have hvc:=hvc.le j49
   try have hvl:=hvl.le j49
   try have hVa:=hVa.le j49
   try have hVb:=hVb.le j49
   try have h10:=h10.le j49
   try have h14:=h14.le j49
   try have h22:=h22.le j49
   try have h29:=h29.le j49
   try have h42:=h42.le j49
   try have h49:=h49.le j49
   obtain⟨A49,n49,rfl,h49⟩:=q49;refine c8y (fun _ m=>m.keepsI (.refl _) (((((((j22).trans j25).trans j29).trans j32).trans j42).trans j45).trans j49) hE4 hf4) ?_;refine dH 35 0 ?_;refine a0n rfl rfl rfl (a0p (a5l _ _ cfC hvc a6G bxF _ a4L _ cfL hvl (by decide) b1p R hR _ _ _ _ _ _ _ (a6K h49 RdS.nil') (a6F 13 ⟨by decide,by decide⟩) nV1 5 _ _ _ _ hVb) rfl rfl (fun v52 I52 j52 q52=>?_))
   try have hvc:=hvc.le j52
   try have hvl:=hvl.le j52
   try have hVa:=hVa.le j52
   try have hVb:=hVb.le j52
   try have h10:=h10.le j52
   try have h14:=h14.le j52
   try have h22:=h22.le j52
   try have h29:=h29.le j52
   try have h42:=h42.le j52
   try have h49:=h49.le j52
   obtain rfl:=q52;rw[d6D hR];refine c8y (fun _ m=>m.keepsI (.refl _) ((((((((j22).trans j25).trans j29).trans j32).trans j42).trans j45).trans j49).trans j52) hE4 hf4) ?_;refine d_t 36 rfl rfl (by kernel_rfl) rfl (fun _ m=>m.keepsI (.refl _) ((((((((j22).trans j25).trans j29).trans j32).trans j42).trans j45).trans j49).trans j52) hE4 hf4) (a1u rfl rfl rfl (b5D rfl)) ?_;refine d_t 37 rfl rfl (by kernel_rfl) rfl (fun _ m=>m.keepsI (.refl _) ((((((((j22).trans j25).trans j29).trans j32).trans j42).trans j45).trans j49).trans j52) hE4 hf4) (y_v rfl (a8K rfl rfl rfl)) ?_;refine d_t 38 rfl rfl (by kernel_rfl) rfl (fun _ m=>m.keepsI (.refl _) ((((((((j22).trans j25).trans j29).trans j32).trans j42).trans j45).trans j49).trans j52) hE4 hf4) (y_v rfl (b3L rfl)) ?_;refine go 4 ?_;exact q_i rfl
theorem d6z (I:IMap) (vc:Value) (c:List Kind) (hvc:RdS I vc c) (f:Fm) (sf:Value) (hfm:FmRd I [ci f.op,ci f.n,sf] f) (v0 v1 v2 v3 v4 v5:Value) (b:Bok) (hb:BokRd I v0 v1 v2 v3 v4 v5 b) (v:Value) (l:List Rep) (hv:RdS I v l) (vn:ByteArray) :
    FnI Tryz.prog 31 #[.agg #[vc,ci f.op,ci f.n,sf],.agg #[v0,v1,v2,v3,v4,v5],v,.string vn] I (fun u J=>∃e:Bool,u = .bool e∧(e=true→b4t c f [] 0=true∧FewBk b∧b5Z l 60=true)):=by
 refine enter Tryz.func31 Tryz.call31 rfl Tryz.ntmps31 rfl fun w0=>?_;refine go 4 fun g4=>?_
 refine go 2 fun g5=>?_
 refine go 9 ?_;refine a0p (c7l _ vc c hvc f sf hfm v0 v1 v2 v3 v4 v5 b hb v l hv 60 oM) rfl rfl fun v12 I12 j12 q12=>?_;obtain⟨b12,rfl,hb12⟩:=q12;refine gS 1 13 (fun h13 p13=>?_) fun h13 p13=>?_
 ·refine go 9 ?_;exact q_i ⟨_,rfl,fun _=>hb12 h13⟩
 ·refine go 9 ?_;exact q_i ⟨_,rfl,fun h=>by cases h⟩
theorem b6n (I:IMap) (vc:Value) (c:List Kind) (hvc:RdS I vc c) (hoc:∀x∈c,d5T x) (f:Fm) (sf:Value) (hfm:FmRd I [ci f.op,ci f.n,sf] f) (hof:OkFm f) (v0 v1 v2 v3 v4 v5:Value) (b:Bok) (hb:BokRd I v0 v1 v2 v3 v4 v5 b) (hob:OkBk b) (v:Value) (l:List Rep) (hv:RdS I v l) (hok:∀x∈l,d7I x) (vn:ByteArray) (wvn:vn.size≤maxLen) (day:Int) (wday:(Lit.int .i64 day).wf=true) (vd:Vdt) (k h u:Value) (hVd:VdRd I k h u vd) :
    FnV Tryz.prog 6 #[.agg #[vc,ci f.op,ci f.n,sf],.agg #[v0,v1,v2,v3,v4,v5],v,.string vn,.int .i64 (day),.agg (vd.cs k h u).toArray] I (.bool true):=by
 obtain⟨A,c0,rfl,hA,hcc,hmm⟩:=id hv;obtain⟨KA,kc,rfl,_,_,_⟩:=id hVd.k;obtain⟨HA,hc,rfl,_,_,_⟩:=id hVd.h;obtain⟨UA,uc,rfl,_,_,_⟩:=id hVd.f;refine enter Tryz.func6 Tryz.call6 rfl Tryz.ntmps6 rfl fun w0=>?_;refine go 4 fun g6=>?_
 refine go 2 fun g7=>?_
 refine go 2 fun g11=>?_
 refine go 6 ?_;refine a0p (d3o _) rfl rfl fun v15 I15 j15 q15=>?_
 try have hvc:=hvc.le j15
 try have hfm:=hfm.le j15
 try have hb:=hb.le j15
 try have hv:=hv.le j15
 try have hVd:=hVd.le j15
 try have hVa:=hVa.le j15
 obtain rfl:=q15;refine go 11 ?_;refine a0p (d6z _ vc c hvc f sf hfm v0 v1 v2 v3 v4 v5 b hb _ l hv vn) rfl rfl fun v20 I20 j20 q20=>?_
 try have hvc:=hvc.le j20
 try have hfm:=hfm.le j20
 try have hb:=hb.le j20
 try have hv:=hv.le j20
 try have hVd:=hVd.le j20
 try have hVa:=hVa.le j20
 obtain⟨b20,rfl,hb20⟩:=q20;refine gS 2 22 (fun h22 p22=>?_) fun h22 p22=>?_
 ·refine go 29 ?_;exact a8B rfl
 ·refine go 1 ?_;refine a0A (a0n rfl rfl h22 (a0q rfl (a1V ([ci vd.proof.op,ci vd.proof.n,.slice KA vd.proof.kids.length kc]) m0 he rfl rfl rfl) ?_));refine go 1 ?_;refine a0n rfl rfl h22 (a0W (c3I _ vd.proof _ (a3y hVd.k)) rfl rfl (fun v25 q25=>?_));obtain⟨n25,rfl⟩:=q25;refine gS 3 28 (fun h28 p28=>?_) fun h28 p28=>?_
  ·refine go 23 ?_;exact a8B rfl
  ·refine gS 6 34 (fun h34 p34=>?_) fun h34 p34=>?_
   ·refine go 17 ?_;exact a8B rfl
   ·refine gC 7 (fun h39 p39=>?_) fun h39 p39=>?_
    ·refine go 9 ?_;exact a8B rfl
    ·have e20:b20=true:=by simpa using h22
     obtain⟨hf12,hfb,hf16⟩:=hb20 e20;obtain⟨hfR,hwy⟩:=c5F hf16;obtain⟨hsl,hl12⟩:=b6a hfR;have hsc:=(c5E (n:=0) hf12).1;have hok:=d8k hob hfb;obtain⟨R,hR⟩:=b8G l;have hdl:=c9W (f:=f) (c:=c) (b:=b) (l:=l) (R:=R) (vn:=vn) (day:=day) oM;refine go 10 ?_;refine a0p (a5w _ _ c hvc hsc f _ hfm _ l hv oM hsl oM R hR _ _ _ _ _ _ b hb hok vn day) rfl rfl fun v46 I46 j46 q46=>?_
     try have hvc:=hvc.le j46
     try have hfm:=hfm.le j46
     try have hb:=hb.le j46
     try have hv:=hv.le j46
     try have hVd:=hVd.le j46
     try have hVa:=hVa.le j46
     obtain⟨k46,u46,t46,rfl,hVa⟩:=q46;refine go 2 fun g14=>?_
     refine go 1 ?_;refine a1d _ he rfl rfl rfl rfl rfl (Enc.one (α:=Vdt) ⟨_,_,_,rfl,hVa⟩) ?_;refine gC 10 (fun h49 p49=>?_) fun h49 p49=>?_
     ·refine go 11 ?_;refine a0n rfl rfl rfl (a0p (a5l _ _ c hvc hsc f _ hfm _ l hv oM hsl R hR _ _ _ _ _ _ b hb hok vn day _ _ _ _ hVa) rfl rfl (fun v58 I58 j58 q58=>?_))
      try have hvc:=hvc.le j58
      try have hfm:=hfm.le j58
      try have hb:=hb.le j58
      try have hv:=hv.le j58
      try have hVd:=hVd.le j58
      try have hVa:=hVa.le j58
      obtain rfl:=q58;rw[hdl.1 p49];refine go 8 ?_;exact a8B rfl
     ·refine go 13 ?_;refine a0n rfl rfl rfl (a0p (a5l _ _ c hvc hsc f _ hfm _ l hv oM hsl R hR _ _ _ _ _ _ b hb hok vn day _ _ _ _ hVa) rfl rfl (fun v69 I69 j69 q69=>?_))
      try have hvc:=hvc.le j69
      try have hfm:=hfm.le j69
      try have hb:=hb.le j69
      try have hv:=hv.le j69
      try have hVd:=hVd.le j69
      try have hVa:=hVa.le j69
      obtain rfl:=q69;rw[(hdl.2 p49).1];refine go 9 ?_;refine a0n rfl rfl rfl (a0p (a5l _ _ c hvc hsc f _ hfm _ l hv oM hsl R hR _ _ _ _ _ _ b hb hok vn day vd _ _ _ hVd) rfl rfl (fun v78 I78 j78 q78=>?_))
      try have hvc:=hvc.le j78
      try have hfm:=hfm.le j78
      try have hb:=hb.le j78
      try have hv:=hv.le j78
      try have hVd:=hVd.le j78
      try have hVa:=hVa.le j78
      obtain rfl:=q78
      skip
      refine gS 2 80 (fun h80 p80=>?_) fun h80 p80=>?_
      ·refine go 12 ?_;exact a8B rfl
      ·refine go 4 ?_;refine a0A (a0n rfl rfl h80 (a0q rfl (OV.cast (u:=.bool true) (c0E rfl rfl) (congrArg Value.bool (decide_eq_true ((hdl.2 p49).2 vd (by simpa using h80))))) ?_));refine go 7 ?_;exact a8B rfl
end Go.Proofs.YtgmkjpafapgccaaGreat
namespace Go.Proofs.YtgmkjpafapgccaaGreat
open Go Go.Sx
set_option linter.all false
theorem T.cel_102:Tryz.prog.cellsOf 102=3:=by kernel_rfl
theorem T.cel_109:Tryz.prog.cellsOf 109=2:=by kernel_rfl
theorem T.cel_128:Tryz.prog.cellsOf 128=6:=by kernel_rfl
theorem T.cel_130:Tryz.prog.cellsOf 130=14:=by kernel_rfl
theorem T.cel_149:Tryz.prog.cellsOf 149=3:=by kernel_rfl
theorem T.cel_157:Tryz.prog.cellsOf 157=3:=by kernel_rfl
theorem T.cel_181:Tryz.prog.cellsOf 181=5:=by kernel_rfl
theorem T.cel_189:Tryz.prog.cellsOf 189=3:=by kernel_rfl
theorem T.cel_24:Tryz.prog.cellsOf 24=1:=by kernel_rfl
theorem T.cel_245:Tryz.prog.cellsOf 245=5:=by kernel_rfl
theorem T.cel_27:Tryz.prog.cellsOf 27=3:=by kernel_rfl
theorem T.cel_29:Tryz.prog.cellsOf 29=4:=by kernel_rfl
theorem T.cel_3:Tryz.prog.cellsOf 3=1:=by kernel_rfl
theorem T.cel_34:Tryz.prog.cellsOf 34=6:=by kernel_rfl
theorem T.cel_36:Tryz.prog.cellsOf 36=8:=by kernel_rfl
theorem T.cel_44:Tryz.prog.cellsOf 44=3:=by kernel_rfl
theorem T.cel_48:Tryz.prog.cellsOf 48=6:=by kernel_rfl
theorem T.cel_56:Tryz.prog.cellsOf 56=6:=by kernel_rfl
theorem T.cel_81:Tryz.prog.cellsOf 81=2:=by kernel_rfl
theorem T.cel_9:Tryz.prog.cellsOf 9=1:=by kernel_rfl
theorem T.cel_95:Tryz.prog.cellsOf 95=4:=by kernel_rfl
instance T.fds_102:Has (a0B Tryz.prog 102) [(9,0,1),(9,1,1),(3,2,1)]:=hk
instance T.fds_109:Has (a0B Tryz.prog 109) [(72,0,1),(4,1,1)]:=hk
instance T.fds_128:Has (a0B Tryz.prog 128) [(81,0,2),(81,2,2),(81,4,2)]:=hk
instance T.fds_130:Has (a0B Tryz.prog 130) [(3,0,1),(3,1,1),(9,2,1),(9,3,1),(9,4,1),(9,5,1),(9,6,1),(9,7,1),(128,8,6)]:=hk
instance T.fds_149:Has (a0B Tryz.prog 149) [(9,0,1),(4,1,1),(147,2,1)]:=hk
instance T.fds_157:Has (a0B Tryz.prog 157) [(3,0,1),(9,1,1),(9,2,1)]:=hk
instance T.fds_181:Has (a0B Tryz.prog 181) [(9,0,1),(9,1,1),(9,2,1),(9,3,1),(3,4,1)]:=hk
instance T.fds_189:Has (a0B Tryz.prog 189) [(9,0,1),(88,1,1),(3,2,1)]:=hk
instance T.fds_24:Has (a0B Tryz.prog 24) [(22,0,1)]:=hk
instance T.fds_245:Has (a0B Tryz.prog 245) [(9,0,1),(9,1,1),(9,2,1),(3,3,1),(3,4,1)]:=hk
instance T.fds_27:Has (a0B Tryz.prog 27) [(3,0,1),(3,1,1),(25,2,1)]:=hk
instance T.fds_29:Has (a0B Tryz.prog 29) [(24,0,1),(27,1,3)]:=hk
instance T.fds_34:Has (a0B Tryz.prog 34) [(3,0,1),(9,1,1),(9,2,1),(3,3,1),(3,4,1),(32,5,1)]:=hk
instance T.fds_36:Has (a0B Tryz.prog 36) [(9,0,1),(9,1,1),(34,2,6)]:=hk
instance T.fds_44:Has (a0B Tryz.prog 44) [(3,0,1),(3,1,1),(42,2,1)]:=hk
instance T.fds_48:Has (a0B Tryz.prog 48) [(3,0,1),(44,1,3),(45,4,1),(46,5,1)]:=hk
instance T.fds_56:Has (a0B Tryz.prog 56) [(50,0,1),(51,1,1),(52,2,1),(53,3,1),(50,4,1),(54,5,1)]:=hk
instance T.fds_81:Has (a0B Tryz.prog 81) [(3,0,1),(3,1,1)]:=hk
instance T.fds_95:Has (a0B Tryz.prog 95) [(9,0,1),(9,1,1),(45,2,1),(45,3,1)]:=hk
namespace lawTopDecided
open Go.ChangeShapes Go.WideShapes Go.ChangeAt Go.RowKit Go.ChangeMaps Go.MapKept
theorem own:ownKnob Tryz.prog.godebug=none:=by kernel_rfl
set_option maxRecDepth 100000 in
theorem lifted (os:Os) (started:os.Started) (H:Type) (enc:TypeId×Value→H) :
  ReturnsInHanded {} Tryz.checked os 6 .any (Rows.topDecidedSpec.pre6 enc Tryz.prog Tryz.f6 Rows.topDecidedRow.domain false) (Rows.topDecidedSpec.post enc Tryz.prog Tryz.f6 false true false false):=by
 refine returnsInHanded_of_change (C:=Tryz.checked) own started (by kernel_rfl) Tryz.func6
  (ChangeSpec.witness6 (enc:=enc) (C:=Tryz.checked) false ⟨#[],#[.agg #[.slice none 0 0,.int .i64 0,.int .i64 0,.slice none 0 0],.agg #[.slice none 0 0,.slice none 0 0,.slice none 0 0,.slice none 0 0,.slice none 0 0,.slice none 0 0],.slice none 0 0,.string ⟨#[]⟩,.int .i64 0,.agg #[.int .i64 0,.int .i64 0,.int .i64 0,.slice none 0 0,.slice none 0 0,.slice none 0 0]],[]⟩ 8 (by kernel_rfl) (by kernel_rfl) (by kernel_rfl) (by kernel_rfl)) ?_
 intro W base args ds gs before hval0 hW hcnd _;have hval:∀(j:Nat) t v,Tryz.f6.params[j]? = some t→args[j]? = some v→Value.okWide Tryz.prog W .any base t v:=hval0;have hW':=hW;obtain⟨p,q,hA0,hV,rfl,hfz,hnd⟩:=hW;have hA:DataW.TrodAll enc Tryz.prog W 0 (fun _=>true) true Tryz.f6.params.toList args.toList ds p:=hA0;rw[Tryz.params6]at hA hval
 obtain⟨v0,vs0,d0,ds0,p0,q0,hargs,rfl,rfl,h0,r0⟩:=trodAll_cons hA;obtain⟨v1,vs1,d1,ds1,p1,q1,rfl,rfl,rfl,h1,r1⟩:=trodAll_cons r0;obtain⟨v2,vs2,d2,ds2,p2,q2,rfl,rfl,rfl,h2,r2⟩:=trodAll_cons r1;obtain⟨v3,vs3,d3,ds3,p3,q3,rfl,rfl,rfl,h3,r3⟩:=trodAll_cons r2;obtain⟨v4,vs4,d4,ds4,p4,q4,rfl,rfl,rfl,h4,r4⟩:=trodAll_cons r3;obtain⟨v5,vs5,d5,ds5,p5,q5,rfl,rfl,rfl,h5,r5⟩:=trodAll_cons r4;obtain⟨rfl,rfl,rfl⟩:=trodAll_nil r5;obtain rfl:args=#[v0,v1,v2,v3,v4,v5]:=by cases args;simp_all
 obtain⟨rfl,rfl⟩:=trodVars_none hV;clear hA0 hval0;obtain⟨cs0,rfl,hz0⟩:=a8v T.fds_29.eq (hval 0 29 v0 rfl rfl);obtain⟨fu0,hf0⟩:=h0;obtain⟨x0,⟨vc0,sf0,e0,R0,F0⟩,G0⟩:=(b6G T.fds_29.eq T.cel_29 (c0e T.fds_24.eq T.cel_24 (a1l T.und_22.eq T.cel_149 rfl (c0c T.fds_149.eq T.cel_149 (a1s T.und_9.eq) (b2i T.und_4.eq) (a1l T.und_147.eq T.cel_189 rfl (c0d T.fds_189.eq T.cel_189 (a1s T.und_9.eq) (a1l T.und_88.eq T.cel_9 rfl (a1s T.und_9.eq)) (a1K T.und_3.eq)))))) (b2j T.fds_27.eq T.cel_27 T.und_25.eq T.und_3.eq)) enc W 0 _ true fu0 _ _ hf0;obtain rfl:cs0=#[vc0,ci x0.dam.op,ci x0.dam.n,sf0]:=Array.toList_inj.1 e0;obtain⟨cs1,rfl,hz1⟩:=a8v T.fds_56.eq (hval 1 56 v1 rfl rfl);obtain⟨fu1,hf1⟩:=h1;obtain⟨x1,⟨va1,vb1,vc1,vd1,ve1,vf1,e1,R1⟩,G1⟩:=(c2Y T.fds_56.eq T.cel_56 (a1l T.und_50.eq T.cel_36 rfl (c3g T.fds_36.eq T.cel_36 (a1s T.und_9.eq) (c0a T.fds_34.eq T.cel_34 T.und_32.eq T.und_3.eq (a1s T.und_9.eq)))) (a1l T.und_51.eq T.cel_181 rfl (c3h T.fds_181.eq T.cel_181 (a1s T.und_9.eq) (a1K T.und_3.eq))) (a1l T.und_52.eq T.cel_245 rfl (c3a T.fds_245.eq T.cel_245 (a1s T.und_9.eq) (a1K T.und_3.eq))) (a1l T.und_53.eq T.cel_102 rfl (c2Z T.fds_102.eq T.cel_102 (a1s T.und_9.eq) (a1K T.und_3.eq))) (a1l T.und_54.eq T.cel_95 rfl (c3d T.fds_95.eq T.cel_95 (a1s T.und_9.eq) (a1l T.und_45.eq T.cel_3 rfl (a1K T.und_3.eq))))) enc W 0 _ true fu1 _ _ hf1;obtain rfl:cs1=#[va1,vb1,vc1,vd1,ve1,vf1]:=Array.toList_inj.1 e1;obtain⟨s2,n2,c2,rfl⟩:=okWide_slice T.und_30.eq (hval 2 30 v2 rfl rfl);obtain⟨fu2,hf2⟩:=h2;obtain⟨l2,⟨u2,e2,R2⟩,G2⟩:=(a1l T.und_30.eq T.cel_109 rfl (c3f T.fds_109.eq T.cel_109 (a1l T.und_72.eq T.cel_130 rfl (c3b T.fds_130.eq T.cel_130 (a1K T.und_3.eq) (a1s T.und_9.eq) (c3i T.fds_128.eq T.cel_128 (c3e T.fds_81.eq T.cel_81 (a1K T.und_3.eq))))) (b2i T.und_4.eq))) enc W 0 _ true fu2 _ _ hf2
 cases e2
 obtain⟨a3,rfl,rfl,rfl,w3⟩:=open_string T.und_9.eq (hval 3 9 v3 rfl rfl) h3;obtain⟨a4,rfl,rfl,rfl,w4⟩:=open_int T.und_3.eq (hval 4 3 v4 rfl rfl) h4;obtain⟨cs5,rfl,hz5⟩:=a8v T.fds_48.eq (hval 5 48 v5 rfl rfl);obtain⟨fu5,hf5⟩:=h5;obtain⟨x5,⟨va5,vb5,vc5,e5,R5⟩,G5⟩:=(c3j T.fds_48.eq T.cel_48 (a1K T.und_3.eq) (b2j T.fds_44.eq T.cel_44 T.und_42.eq T.und_3.eq) (a1l T.und_45.eq T.cel_3 rfl (a1K T.und_3.eq)) (a1l T.und_46.eq T.cel_157 rfl (c3c T.fds_157.eq T.cel_157 (a1K T.und_3.eq) (a1s T.und_9.eq)))) enc W 0 _ true fu5 _ _ hf5;obtain rfl:cs5=(x5.cs va5 vb5 vc5).toArray:=Array.toList_inj.1 e5;exact c2z (s:=Rows.topDecidedSpec) Tryz.call6 (b6n (Iw W) vc0 x0.kinds R0 G0.1 x0.dam sf0 F0 G0.2 va1 vb1 vc1 vd1 ve1 vf1 x1 R1 G1 _ l2 R2 G2 a3 w3 a4 w4 x5 va5 vb5 vc5 R5) hW' (by kernel_rfl) (by kernel_rfl) rfl T.und_4.eq rfl rfl
end lawTopDecided
end Go.Proofs.YtgmkjpafapgccaaGreat
