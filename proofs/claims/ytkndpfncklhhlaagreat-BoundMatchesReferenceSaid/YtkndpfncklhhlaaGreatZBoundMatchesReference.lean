
import Derived.Test.YtkndpfncklhhlaaGreatZBmf
import Derived.ChangeMaps5
import Derived.OpenShut
import Derived.ProofKit
import Derived.Test.YtkndpfncklhhlaaGreatRows
namespace Go.Proofs.YtkndpfncklhhlaaGreat
open Go Go.Sx
set_option linter.all false
set_option maxRecDepth 20000
set_option maxHeartbeats 4000000
theorem T.eqg_36:Tryz.prog.eqGuardType Tryz.prog.depth 36=false:=by kernel_rfl
theorem a6A (I:IMap) (vc:Value) (c:List Kind) (hvc:RdS I vc c) (hoc:∀x∈c,d3f x) (f:Fm) (sf:Value) (hf:FmRd I [ci f.op,ci f.n,sf] f) (hof:OkFm f) (v:Value) (l:List Rep) (hv:RdS I v l) (hok:∀x∈l,d4p x) (p:ByteArray) (wp:p.size≤maxLen) (s:ByteArray) (ws:s.size≤maxLen) (day:Int) (wd:(Lit.int .i64 day).wf=true) :
    FnV Tryz.prog 3 #[.agg #[vc,ci f.op,ci f.n,sf],v,.string p,.string s,.int .i64 (day)] I (.bool true):=by
 refine enter Tryz.func3 Tryz.call3 rfl Tryz.ntmps3 rfl fun w0=>?_;refine go 4 fun g5=>?_
 refine go 6 ?_;refine cV (d1r _) ?_;refine go 9 ?_;refine cV (c4H _ vc c hvc f sf hf v l hv) ?_;refine gS 2 25 (fun h25 p25=>?_) fun h25 p25=>?_
 ·refine go 19 ?_;exact b5v rfl
 ·refine go 4 ?_;refine a0P (a0z rfl rfl h25 (a0k rfl (d2K rfl rfl) ?_));refine gC 4 (fun h32 p32=>?_) fun h32 p32=>?_
  ·refine go 9 ?_;exact b5v rfl
  ·obtain⟨hsc,hl12,hsl,_⟩:=c4c (show b4L c f l=true by simpa using h25);obtain⟨R,hR⟩:=b7u l;refine go 9 ?_;refine a0D (b1H _ vc c hvc hsc f sf hf v l hv oM hsl R hR p day) rfl rfl fun v39 I39 j39 q39=>?_
   try have hvc:=hvc.le j39
   try have hf:=hf.le j39
   try have hv:=hv.le j39
   obtain rfl:=q39;refine go 5 fun g12=>?_
   refine go 12 ?_;refine a0D (c9j _ vc c hvc hsc f sf hf v l hv oM hsl R hR p day) rfl rfl fun v47 I47 j47 q47=>?_
   try have hvc:=hvc.le j47
   try have hf:=hf.le j47
   try have hv:=hv.le j47
   obtain rfl:=q47;refine go 5 fun g14=>?_
   refine go 13 ?_;refine a0D (a7f _ vc c hvc hsc f sf hf v l hv oM hsl R hR p s day) rfl rfl fun v56 I56 j56 q56=>?_
   try have hvc:=hvc.le j56
   try have hf:=hf.le j56
   try have hv:=hv.le j56
   obtain rfl:=q56;refine go 5 fun g16=>?_
   refine go 13 ?_;refine a0D (c5m _ vc c hvc hsc f sf hf v l hv oM hsl R hR p s day) rfl rfl fun v65 I65 j65 q65=>?_
   try have hvc:=hvc.le j65
   try have hf:=hf.le j65
   try have hv:=hv.le j65
   obtain rfl:=q65;refine go 5 fun g18=>?_
   refine go 11 ?_;refine a0P (a0z rfl rfl rfl (a0k rfl (OV.cast (u:=.bool true) (a5F T.eqg_36 (c3X (bndLife f c l (a1e l R p) p day).1 (bndLife f c l (a1e l R p) p day).1) rfl rfl) (congrArg Value.bool (decide_eq_true rfl))) ?_));refine go 4 ?_;refine a0P (a0z rfl rfl rfl (a0k rfl (OV.cast (u:=.bool true) (b4i rfl rfl) (congrArg Value.bool (decide_eq_true rfl))) ?_));refine go 4 ?_;refine a0P (a0z rfl rfl rfl (a0k rfl (OV.cast (u:=.bool true) (a5F T.eqg_34 (a9x (bndVal s f c l (a1e l R p) p day).1 (bndVal s f c l (a1e l R p) p day).1) rfl rfl) (congrArg Value.bool (decide_eq_true rfl))) ?_));refine go 4 ?_;refine a0P (a0z rfl rfl rfl (a0k rfl (OV.cast (u:=.bool true) (b4i rfl rfl) (congrArg Value.bool (decide_eq_true rfl))) ?_));refine go 6 ?_;exact b5v rfl
end Go.Proofs.YtkndpfncklhhlaaGreat
namespace Go.Proofs.YtkndpfncklhhlaaGreat
open Go Go.Sx
set_option linter.all false
theorem T.cel_130:Tryz.prog.cellsOf 130=3:=by kernel_rfl
theorem T.cel_24:Tryz.prog.cellsOf 24=1:=by kernel_rfl
theorem T.cel_27:Tryz.prog.cellsOf 27=3:=by kernel_rfl
theorem T.cel_29:Tryz.prog.cellsOf 29=4:=by kernel_rfl
theorem T.cel_34:Tryz.prog.cellsOf 34=2:=by kernel_rfl
theorem T.cel_70:Tryz.prog.cellsOf 70=6:=by kernel_rfl
theorem T.cel_72:Tryz.prog.cellsOf 72=14:=by kernel_rfl
theorem T.cel_76:Tryz.prog.cellsOf 76=3:=by kernel_rfl
theorem T.cel_79:Tryz.prog.cellsOf 79=2:=by kernel_rfl
theorem T.cel_9:Tryz.prog.cellsOf 9=1:=by kernel_rfl
instance T.fds_130:Has (a1I Tryz.prog 130) [(9,0,1),(117,1,1),(3,2,1)]:=hk
instance T.fds_24:Has (a1I Tryz.prog 24) [(22,0,1)]:=hk
instance T.fds_27:Has (a1I Tryz.prog 27) [(3,0,1),(3,1,1),(25,2,1)]:=hk
instance T.fds_29:Has (a1I Tryz.prog 29) [(24,0,1),(27,1,3)]:=hk
instance T.fds_34:Has (a1I Tryz.prog 34) [(3,0,1),(3,1,1)]:=hk
instance T.fds_70:Has (a1I Tryz.prog 70) [(34,0,2),(34,2,2),(34,4,2)]:=hk
instance T.fds_72:Has (a1I Tryz.prog 72) [(3,0,1),(3,1,1),(9,2,1),(9,3,1),(9,4,1),(9,5,1),(9,6,1),(9,7,1),(70,8,6)]:=hk
instance T.fds_76:Has (a1I Tryz.prog 76) [(9,0,1),(4,1,1),(74,2,1)]:=hk
instance T.fds_79:Has (a1I Tryz.prog 79) [(77,0,1),(4,1,1)]:=hk
namespace lawBoundMatchesReference
open Go.ChangeShapes Go.WideShapes Go.ChangeAt Go.RowKit Go.ChangeMaps Go.MapKept
theorem own:ownKnob Tryz.prog.godebug=none:=by kernel_rfl
set_option maxRecDepth 100000 in
theorem lifted (os:Os) (started:os.Started) (H:Type) (enc:TypeId×Value→H) :
  ReturnsInHanded {} Tryz.checked os 3 .any (Rows.boundMatchesReferenceSpec.pre6 enc Tryz.prog Tryz.f3 Rows.boundMatchesReferenceRow.domain false) (Rows.boundMatchesReferenceSpec.post enc Tryz.prog Tryz.f3 false true false false):=by
 refine returnsInHanded_of_change (C:=Tryz.checked) own started (by kernel_rfl) Tryz.func3
  (ChangeSpec.witness6 (enc:=enc) (C:=Tryz.checked) false ⟨#[],#[.agg #[.slice none 0 0,.int .i64 0,.int .i64 0,.slice none 0 0],.slice none 0 0,.string ⟨#[]⟩,.string ⟨#[]⟩,.int .i64 0],[]⟩ 8 (by kernel_rfl) (by kernel_rfl) (by kernel_rfl) (by kernel_rfl)) ?_
 intro W base args ds gs before hval0 hW hcnd _;have hval:∀(j:Nat) t v,Tryz.f3.params[j]? = some t→args[j]? = some v→Value.okWide Tryz.prog W .any base t v:=hval0;have hW':=hW;obtain⟨p,q,hA0,hV,rfl,hfz,hnd⟩:=hW;have hA:DataW.TrodAll enc Tryz.prog W 0 (fun _=>true) true Tryz.f3.params.toList args.toList ds p:=hA0;rw[Tryz.params3]at hA hval
 obtain⟨v0,vs0,d0,ds0,p0,q0,hargs,rfl,rfl,h0,r0⟩:=trodAll_cons hA;obtain⟨v1,vs1,d1,ds1,p1,q1,rfl,rfl,rfl,h1,r1⟩:=trodAll_cons r0;obtain⟨v2,vs2,d2,ds2,p2,q2,rfl,rfl,rfl,h2,r2⟩:=trodAll_cons r1;obtain⟨v3,vs3,d3,ds3,p3,q3,rfl,rfl,rfl,h3,r3⟩:=trodAll_cons r2;obtain⟨v4,vs4,d4,ds4,p4,q4,rfl,rfl,rfl,h4,r4⟩:=trodAll_cons r3;obtain⟨rfl,rfl,rfl⟩:=trodAll_nil r4;obtain rfl:args=#[v0,v1,v2,v3,v4]:=by cases args;simp_all
 obtain⟨rfl,rfl⟩:=trodVars_none hV;clear hA0 hval0;obtain⟨cs0,rfl,hz0⟩:=b8F T.fds_29.eq (hval 0 29 v0 rfl rfl);obtain⟨fu0,hf0⟩:=h0;obtain⟨x0,⟨vc0,sf0,e0,R0,F0⟩,G0⟩:=(b5n T.fds_29.eq T.cel_29 (b8M T.fds_24.eq T.cel_24 (a4x T.und_22.eq T.cel_76 rfl (b8K T.fds_76.eq T.cel_76 (a4K T.und_9.eq) (b1h T.und_4.eq) (a4x T.und_74.eq T.cel_130 rfl (b8L T.fds_130.eq T.cel_130 (a4K T.und_9.eq) (a4x T.und_117.eq T.cel_9 rfl (a4K T.und_9.eq)) (a5Y T.und_3.eq)))))) (b8J T.fds_27.eq T.cel_27 T.und_25.eq T.und_3.eq)) enc W 0 _ true fu0 _ _ hf0;obtain rfl:cs0=#[vc0,ci x0.dam.op,ci x0.dam.n,sf0]:=Array.toList_inj.1 e0;obtain⟨s1,n1,c1,rfl⟩:=okWide_slice T.und_30.eq (hval 1 30 v1 rfl rfl);obtain⟨fu1,hf1⟩:=h1;obtain⟨l1,⟨u1,e1,R1⟩,G1⟩:=(a4x T.und_30.eq T.cel_79 rfl (c1T T.fds_79.eq T.cel_79 (a4x T.und_77.eq T.cel_72 rfl (c1R T.fds_72.eq T.cel_72 (a5Y T.und_3.eq) (a4K T.und_9.eq) (c1U T.fds_70.eq T.cel_70 (c1S T.fds_34.eq T.cel_34 (a5Y T.und_3.eq))))) (b1h T.und_4.eq))) enc W 0 _ true fu1 _ _ hf1
 cases e1
 obtain⟨a2,rfl,rfl,rfl,w2⟩:=open_string T.und_9.eq (hval 2 9 v2 rfl rfl) h2;obtain⟨a3,rfl,rfl,rfl,w3⟩:=open_string T.und_9.eq (hval 3 9 v3 rfl rfl) h3;obtain⟨a4,rfl,rfl,rfl,w4⟩:=open_int T.und_3.eq (hval 4 3 v4 rfl rfl) h4;exact c1h (s:=Rows.boundMatchesReferenceSpec) Tryz.call3 (a6A (Iw W) vc0 x0.kinds R0 G0.1 x0.dam sf0 F0 G0.2 _ l1 R1 G1 a2 w2 a3 w3 a4 w4) hW' (by kernel_rfl) (by kernel_rfl) rfl T.und_4.eq rfl rfl
end lawBoundMatchesReference
end Go.Proofs.YtkndpfncklhhlaaGreat
