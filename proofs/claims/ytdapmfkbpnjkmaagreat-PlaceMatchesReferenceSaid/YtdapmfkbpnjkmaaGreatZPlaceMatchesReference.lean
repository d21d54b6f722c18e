
import Derived.Test.YtdapmfkbpnjkmaaGreatZPmf
import Derived.ChangeMaps5
import Derived.OpenShut
import Derived.ProofKit
import Derived.Test.YtdapmfkbpnjkmaaGreatRows
namespace Go.Proofs.YtdapmfkbpnjkmaaGreat
open Go Go.Sx
set_option linter.all false
set_option maxRecDepth 20000
set_option maxHeartbeats 4000000
theorem a5L (I:IMap) (vc:Value) (c:List Kind) (hvc:RdS I vc c) (hoc:∀x∈c,d0G x) (v:Value) (l:List Rep) (hv:RdS I v l) (hok:∀x∈l,d0H x) (p:ByteArray) (wp:p.size≤maxLen) (z:ByteArray) (wz:z.size≤maxLen) (day:Int) (wd:(Lit.int .i64 day).wf=true) :
    FnV Tryz.prog 3 #[.agg #[vc],v,.string p,.string z,.int .i64 (day)] I (.bool true):=by
 refine enter Tryz.func3 Tryz.call3 rfl Tryz.ntmps3 rfl (fun w0=>?_);refine go 3 ?_;refine a0B _ rfl rfl rfl (fun g5=>?_);refine go 6 ?_;refine a0d (c8q _) rfl rfl ?_;refine go 5 ?_;refine a5d (α:=IMap) (Ix:=(fun J=>J)) (Lx:=(fun J=>[(1,v),(2,.string p),(3,.string z),(4,.int .i64 (day)),(5,.pointer (some ⟨g5,0,none⟩)),(11,.bool true),(35,.bool (!b7c c l || !c4W [p,z]))])) (Hx:=(fun J=>[.blk g5 24 [vc]])) (p:=(fun J=>ILe I J)) ?_ ?_
 ·refine go 4 ?_;refine a0d (c2I _ vc c hvc v l hv) rfl rfl ?_;refine go 2 ?_;refine sxb 29 rfl (fun h29 p29=>?_) (fun h29 p29=>?_)
  ·refine go 8 ?_;exact a2a I (ILe.refl _) ⟨rfl,rfl,rfl,rfl,rfl,rfl,(congrArg (fun b=>some (Value.bool b)) (by simp only[h29,bS])),trivial⟩ rfl rfl
  ·refine go 3 ?_;refine a0R rfl rfl h29 (a0c he he rfl rfl rfl rfl rfl rfl rfl (fun v32=>?_));refine a0l (l:=[p,z]) rfl rfl (.cons rfl (.one rfl)) (fun I32 j32 R32=>?_)
   have hvc:=hvc.le j32
   have hv:=hv.le j32
   refine go 1 ?_;refine a0R rfl rfl h29 (a0d (b7m _ _ [p,z] R32 (by simp)) rfl rfl ?_);refine go 4 ?_;exact a2a I32 j32 ⟨rfl,rfl,rfl,rfl,rfl,rfl,(congrArg (fun b=>some (Value.bool b)) (by simp only[h29,bS])),trivial⟩ rfl rfl
 ·intro J hJ
  have hvc:=hvc.le hJ
  have hv:=hv.le hJ
  refine cb rfl (fun h35 p35=>?_) (fun h35 p35=>?_)
  ·refine go 8 ?_;refine a0s rfl rfl ?_;exact c7J rfl
  ·simp only[Bool.or_eq_false_iff,Bool.not_eq_false']at h35
   obtain⟨hsc,hl12,hsl,_⟩:=c2m h35.1
   have hl:l.length≤1000000:=by omega
   obtain⟨R,hR⟩:=b6m l;refine go 9 ?_;refine a0O (d0M _ vc c hvc hsc v l hv hl hsl R hR p day) rfl rfl (fun v42 I42 j42 q42=>?_)
   try have hvc:=hvc.le j42
   try have hv:=hv.le j42
   try have hw42:=hw42.le j42
   try have hw50:=hw50.le j42
   try have hw59:=hw59.le j42
   try have hw68:=hw68.le j42
   try have hw76:=hw76.le j42
   obtain⟨w42,rfl,hw42⟩:=q42;refine go 14 ?_;refine a0O (c6Q _ vc c hvc hsc v l hv hl hsl R hR p day) rfl rfl (fun v50 I50 j50 q50=>?_)
   try have hvc:=hvc.le j50
   try have hv:=hv.le j50
   try have hw42:=hw42.le j50
   try have hw50:=hw50.le j50
   try have hw59:=hw59.le j50
   try have hw68:=hw68.le j50
   try have hw76:=hw76.le j50
   obtain⟨w50,rfl,hw50⟩:=q50;refine go 15 ?_;refine a0O (c6C _ vc c hvc hsc v l hv hl hsl R hR p z day) rfl rfl (fun v59 I59 j59 q59=>?_)
   try have hvc:=hvc.le j59
   try have hv:=hv.le j59
   try have hw42:=hw42.le j59
   try have hw50:=hw50.le j59
   try have hw59:=hw59.le j59
   try have hw68:=hw68.le j59
   try have hw76:=hw76.le j59
   obtain⟨w59,rfl,hw59⟩:=q59;refine go 15 ?_;refine a0O (c3v _ vc c hvc hsc v l hv hl hsl R hR p z day) rfl rfl (fun v68 I68 j68 q68=>?_)
   try have hvc:=hvc.le j68
   try have hv:=hv.le j68
   try have hw42:=hw42.le j68
   try have hw50:=hw50.le j68
   try have hw59:=hw59.le j68
   try have hw68:=hw68.le j68
   try have hw76:=hw76.le j68
   obtain⟨w68,rfl,hw68⟩:=q68;refine go 14 ?_;refine a0O (c0l _ vc c hvc hsc v l hv hl hsl R hR p day) rfl rfl (fun v76 I76 j76 q76=>?_)
   try have hvc:=hvc.le j76
   try have hv:=hv.le j76
   try have hw42:=hw42.le j76
   try have hw50:=hw50.le j76
   try have hw59:=hw59.le j76
   try have hw68:=hw68.le j76
   try have hw76:=hw76.le j76
   obtain⟨w76,rfl,hw76⟩:=q76;refine go 14 ?_;refine a0O (b7S _ vc c hvc hsc v l hv hl hsl R hR p day) rfl rfl (fun v84 I84 j84 q84=>?_)
   try have hvc:=hvc.le j84
   try have hv:=hv.le j84
   try have hw42:=hw42.le j84
   try have hw50:=hw50.le j84
   try have hw59:=hw59.le j84
   try have hw68:=hw68.le j84
   try have hw76:=hw76.le j84
   obtain⟨w84,rfl,hw84⟩:=q84;refine go 13 ?_;refine a1d (a0R rfl rfl rfl (a0t rfl (OV.cast (u:=.bool true) (b3L rfl rfl) (congrArg Value.bool (decide_eq_true (rfl)))) ?_));refine go 5 ?_;refine a0R rfl rfl rfl (a0d (a7j _ _ _ hw42 _ _ hw50 rfl) rfl rfl ?_);refine go 4 ?_;refine a1d (a0R rfl rfl rfl (a0t rfl (OV.cast (u:=.bool true) (b3L rfl rfl) (congrArg Value.bool (decide_eq_true (rfl)))) ?_));refine go 5 ?_;refine a0R rfl rfl rfl (a0d (a4J _ _ _ hw59 _ _ hw68 rfl) rfl rfl ?_);refine go 4 ?_;refine a1d (a0R rfl rfl rfl (a0t rfl (OV.cast (u:=.bool true) (b3L rfl rfl) (congrArg Value.bool (decide_eq_true (rfl)))) ?_));refine go 5 ?_;refine a0R rfl rfl rfl (a0d (a4J _ _ _ hw76 _ _ hw84 rfl) rfl rfl ?_);refine go 5 ?_;refine a0s rfl rfl ?_;exact c7J rfl
end Go.Proofs.YtdapmfkbpnjkmaaGreat
namespace Go.Proofs.YtdapmfkbpnjkmaaGreat
open Go Go.Sx
set_option linter.all false
theorem T.cel_168:Tryz.prog.cellsOf 168=3:=by kernel_rfl
theorem T.cel_170:Tryz.prog.cellsOf 170=3:=by kernel_rfl
theorem T.cel_24:Tryz.prog.cellsOf 24=1:=by kernel_rfl
theorem T.cel_44:Tryz.prog.cellsOf 44=2:=by kernel_rfl
theorem T.cel_64:Tryz.prog.cellsOf 64=2:=by kernel_rfl
theorem T.cel_9:Tryz.prog.cellsOf 9=1:=by kernel_rfl
theorem T.cel_94:Tryz.prog.cellsOf 94=6:=by kernel_rfl
theorem T.cel_96:Tryz.prog.cellsOf 96=14:=by kernel_rfl
instance T.fds_168:Has (a2v Tryz.prog 168) [(9,0,1),(4,1,1),(166,2,1)]:=⟨by kernel_rfl⟩
instance T.fds_170:Has (a2v Tryz.prog 170) [(9,0,1),(33,1,1),(3,2,1)]:=⟨by kernel_rfl⟩
instance T.fds_24:Has (a2v Tryz.prog 24) [(22,0,1)]:=⟨by kernel_rfl⟩
instance T.fds_44:Has (a2v Tryz.prog 44) [(3,0,1),(3,1,1)]:=⟨by kernel_rfl⟩
instance T.fds_64:Has (a2v Tryz.prog 64) [(62,0,1),(4,1,1)]:=⟨by kernel_rfl⟩
instance T.fds_94:Has (a2v Tryz.prog 94) [(44,0,2),(44,2,2),(44,4,2)]:=⟨by kernel_rfl⟩
instance T.fds_96:Has (a2v Tryz.prog 96) [(3,0,1),(3,1,1),(9,2,1),(9,3,1),(9,4,1),(9,5,1),(9,6,1),(9,7,1),(94,8,6)]:=⟨by kernel_rfl⟩
namespace lawPlaceMatchesReference
open Go.ChangeShapes Go.WideShapes Go.ChangeAt Go.RowKit Go.ChangeMaps Go.MapKept
theorem own:ownKnob Tryz.prog.godebug=none:=by kernel_rfl
set_option maxRecDepth 100000 in
theorem lifted (os:Os) (started:os.Started) (H:Type) (enc:TypeId×Value→H) :
  ReturnsInHanded {} Tryz.checked os 3 .any (Rows.placeMatchesReferenceSpec.pre6 enc Tryz.prog Tryz.f3 Rows.placeMatchesReferenceRow.domain false) (Rows.placeMatchesReferenceSpec.post enc Tryz.prog Tryz.f3 false true false false):=by
 refine returnsInHanded_of_change (C:=Tryz.checked) own started (by kernel_rfl) Tryz.func3
  (ChangeSpec.witness6 (enc:=enc) (C:=Tryz.checked) false ⟨#[],#[.agg #[.slice none 0 0],.slice none 0 0,.string ⟨#[]⟩,.string ⟨#[]⟩,.int .i64 0],[]⟩ 8 (by kernel_rfl) (by kernel_rfl) (by kernel_rfl) (by kernel_rfl)) ?_
 intro W base args ds gs before hval0 hW hcnd _
 have hval:∀(j:Nat) t v,Tryz.f3.params[j]? = some t→args[j]? = some v→Value.okWide Tryz.prog W .any base t v:=hval0
 have hW':=hW
 obtain⟨p,q,hA0,hV,rfl,hfz,hnd⟩:=hW
 have hA:DataW.TrodAll enc Tryz.prog W 0 (fun _=>true) true Tryz.f3.params.toList args.toList ds p:=hA0
 rw[Tryz.params3]at hA hval
 obtain⟨v0,vs0,d0,ds0,p0,q0,hargs,rfl,rfl,h0,r0⟩:=trodAll_cons hA;obtain⟨v1,vs1,d1,ds1,p1,q1,rfl,rfl,rfl,h1,r1⟩:=trodAll_cons r0;obtain⟨v2,vs2,d2,ds2,p2,q2,rfl,rfl,rfl,h2,r2⟩:=trodAll_cons r1;obtain⟨v3,vs3,d3,ds3,p3,q3,rfl,rfl,rfl,h3,r3⟩:=trodAll_cons r2;obtain⟨v4,vs4,d4,ds4,p4,q4,rfl,rfl,rfl,h4,r4⟩:=trodAll_cons r3;obtain⟨rfl,rfl,rfl⟩:=trodAll_nil r4;obtain rfl:args=#[v0,v1,v2,v3,v4]:=by cases args;simp_all
 obtain⟨rfl,rfl⟩:=trodVars_none hV;clear hA0 hval0;obtain⟨cs0,rfl,hz0⟩:=b7w T.fds_24.eq (hval 0 24 v0 rfl rfl);obtain⟨fu0,hf0⟩:=h0;obtain⟨l0,⟨u0,e0,R0⟩,G0⟩:=(b7B T.fds_24.eq T.cel_24 (a4E T.und_22.eq T.cel_168 rfl (b7z T.fds_168.eq T.cel_168 (a4T T.und_9.eq) (b0J T.und_4.eq) (a4E T.und_166.eq T.cel_170 rfl (b7A T.fds_170.eq T.cel_170 (a4T T.und_9.eq) (a4E T.und_33.eq T.cel_9 rfl (a4T T.und_9.eq)) (a9A T.und_3.eq)))))) enc W 0 _ true fu0 _ _ hf0;obtain rfl:cs0=#[u0]:=Array.toList_inj.1 e0;obtain⟨s1,n1,c1,rfl⟩:=okWide_slice T.und_25.eq (hval 1 25 v1 rfl rfl);obtain⟨fu1,hf1⟩:=h1;obtain⟨l1,⟨u1,e1,R1⟩,G1⟩:=(a4E T.und_25.eq T.cel_64 rfl (c0a T.fds_64.eq T.cel_64 (a4E T.und_62.eq T.cel_96 rfl (b9Y T.fds_96.eq T.cel_96 (a9A T.und_3.eq) (a4T T.und_9.eq) (c0b T.fds_94.eq T.cel_94 (b9Z T.fds_44.eq T.cel_44 (a9A T.und_3.eq))))) (b0J T.und_4.eq))) enc W 0 _ true fu1 _ _ hf1
 cases e1
 obtain⟨a2,rfl,rfl,rfl,w2⟩:=open_string T.und_9.eq (hval 2 9 v2 rfl rfl) h2;obtain⟨a3,rfl,rfl,rfl,w3⟩:=open_string T.und_9.eq (hval 3 9 v3 rfl rfl) h3;obtain⟨a4,rfl,rfl,rfl,w4⟩:=open_int T.und_3.eq (hval 4 3 v4 rfl rfl) h4;exact b9y (s:=Rows.placeMatchesReferenceSpec) Tryz.call3 (a5L (Iw W) _ l0 R0 G0 _ l1 R1 G1 a2 w2 a3 w3 a4 w4) hW' (by kernel_rfl) (by kernel_rfl) rfl T.und_4.eq rfl rfl
end lawPlaceMatchesReference
end Go.Proofs.YtdapmfkbpnjkmaaGreat
