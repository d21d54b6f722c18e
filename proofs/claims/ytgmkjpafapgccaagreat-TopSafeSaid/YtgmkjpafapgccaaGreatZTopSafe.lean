
import Derived.Test.YtgmkjpafapgccaaGreatZTsg
import Derived.ChangeMaps5
import Derived.OpenShut
import Derived.ProofKit
import Derived.Test.YtgmkjpafapgccaaGreatRows
namespace Go.Proofs.YtgmkjpafapgccaaGreat
open Go Go.Sx
set_option linter.all false
set_option maxRecDepth 20000
set_option maxHeartbeats 4000000
instance T.by_38:Has (a2j Tryz.prog 38) ([.int .i64 0,.int .i64 0,.int .i64 0,.bool false,.string ⟨#[]⟩,.string ⟨#[]⟩,.int .i64 0,.string ⟨#[]⟩,.string ⟨#[]⟩,.int .i64 0,.int .i64 0,.slice none 0 0],12,144):=hk
instance T.pl_102:Has (plK Tryz.prog 102) [(0,1),(1,1),(2,1)]:=hk
instance T.pl_38:Has (plK Tryz.prog 38) [(0,1),(1,1),(2,1),(3,1),(4,8)]:=hk
theorem c7E (I:IMap) (h:Hld) (a b:Value) (ha:RdS I a h.members) (hb:RdS I b h.back) :
    FnV Tryz.prog 29 #[.agg (h.cs a b).toArray] I (.bool (c3A h)):=by
 obtain⟨MA,mc,rfl,hMA,_,_⟩:=id ha;obtain⟨KA,kc,rfl,hKA,_,_⟩:=id hb;refine enter Tryz.func29 Tryz.call29 rfl Tryz.ntmps29 rfl fun w0=>?_;refine go 4 fun g1=>?_
 refine go 10 ?_
 refine a0x (α:=Nat) 0 (fun i=>I)
  (fun i=>[(1,.pointer (some ⟨g1,0,none⟩)),(3,.int .i64 ((i:Nat):Int))])
  (fun i=>[.blk g1 95 (h.cs (.slice MA h.members.length mc) (.slice KA h.back.length kc))])
  (fun i=>i≤h.members.length∧∀x∈h.members.take i,x∈h.back)
  (fun i=>h.members.length-i) ⟨Nat.zero_le _,fun x hx=>by simp at hx⟩ rfl sb rfl ?_
 intro i ⟨hi,hn⟩;refine gC 10 (fun h10 p10=>?_) fun h10 p10=>?_
 ·have hlt:i<h.members.length:=oM;refine go 16 ?_
  refine a0B ((0:Nat)) (false) (fun k bk=>I)
   (fun k bk=>[(1,.pointer (some ⟨g1,0,none⟩)),(3,.int .i64 ((i:Nat):Int)),(4,.bool bk),(5,.int .i64 ((k:Nat):Int))])
   (fun k bk=>[.blk g1 95 (h.cs (.slice MA h.members.length mc) (.slice KA h.back.length kc))])
   (fun k bk=>k≤h.back.length∧bk=decide (h.members[i]∈h.back.take k))
   (fun k bk=>h.back.length-k) ⟨Nat.zero_le _,by simp⟩ rfl sb rfl ?_
  intro k bk ⟨hk,hbk⟩;refine gC 10 (fun h17 p17=>?_) fun h17 p17=>?_
  ·have hlk:k<h.back.length:=oM;refine go 5 ?_;refine dG 0 2 ?_;refine gS 0 21 (fun h21 p21=>?_) fun h21 p21=>?_
   ·refine dG 2 13 ?_;refine go 9 ?_;exact a0o (k+1) (true) ⟨oM,by rw[b8m hlk,←hbk];simp only[h17,h21,bS]⟩ oM rfl sb rfl
   ·refine dG 2 3 ?_;obtain⟨b25,o25,w25,e25,c25,r25⟩:=RdA.at_ hKA (i:=k) hlk;obtain rfl:=r25;refine d_t 5 rfl rfl (by kernel_rfl) rfl (fun _ m=>m.keeps (.refl _)) (a1O rfl rfl h21 (a0l he rfl rfl e25 (k) oM hlk)) ?_;refine dG 6 4 ?_;obtain⟨b30,o30,w30,e30,c30,r30⟩:=RdA.at_ hMA (i:=i) hlt;obtain rfl:=r30;refine dG 10 5 ?_;refine go 9 ?_;exact a0o (k+1) ((decide (h.back[k]=h.members[i]))) ⟨oM,by rw[b8m hlk,←hbk];simp only[h17,h21,bS]⟩ oM rfl sb rfl
  ·obtain rfl:k=h.back.length:=oM;rw[List.take_length]at hbk
   refine gC 11 (fun h35 p35=>?_) fun h35 p35=>?_
   ·refine go 12 ?_;exact q_v (congrArg Value.bool (c7d hlt (by rw[←hbk];simpa using h35)).symm)
   ·refine go 9 ?_;exact a0w (i+1) ⟨oM,c5v hlt hn (by rw[←hbk];simpa using h35)⟩ oM rfl sb rfl
 ·obtain rfl:i=h.members.length:=oM;rw[List.take_length]at hn
  refine go 12 ?_;exact q_v (congrArg Value.bool (c7c hn).symm)
theorem c6E (I:IMap) (vc:Value) (c:List Kind) (hvc:RdS I vc c) (hoc:∀x∈c,d6x x) (f:Fm) (sf:Value) (hfm:FmRd I [ci f.op,ci f.n,sf] f) (hof:OkFm f) (v0 v1 v2 v3 v4 v5:Value) (b:Bok) (hb:BokRd I v0 v1 v2 v3 v4 v5 b) (hob:OkBk b) (v:Value) (l:List Rep) (hv:RdS I v l) (hok:∀x∈l,d8k x) (vn:ByteArray) (wvn:vn.size≤maxLen) (day:Int) (wday:(Lit.int .i64 day).wf=true) (vd:Vdt) (k h u:Value) (hVd:VdRd I k h u vd) :
    FnV Tryz.prog 5 #[.agg #[vc,ci f.op,ci f.n,sf],.agg #[v0,v1,v2,v3,v4,v5],v,.string vn,.int .i64 (day),.agg (vd.cs k h u).toArray] I (.bool true):=by
 obtain⟨A,c0,rfl,hA,hcc,hmm⟩:=id hv;obtain⟨KA,kc,rfl,_,_,_⟩:=id hVd.k;obtain⟨HA2,hc2,rfl,_,_,_⟩:=id hVd.h;obtain⟨UA,uc,rfl,_,_,_⟩:=id hVd.f;obtain⟨A0,z0,rfl,hA0,_,_⟩:=id hb.r0;obtain⟨A4,z4,rfl,hA4,_,_⟩:=id hb.r4;obtain⟨A5,z5,rfl,hA5,_,_⟩:=id hb.r5;refine enter Tryz.func5 Tryz.call5 rfl Tryz.ntmps5 rfl fun w0=>?_;refine go 4 fun g6=>?_
 refine go 2 fun g7=>?_
 refine go 2 fun g11=>?_
 refine go 6 ?_;refine a0m (d6g _) rfl rfl fun v33 I33 j33 q33=>?_;have hvc:=hvc.le j33;have hfm:=hfm.le j33;have hb:=hb.le j33;have hv:=hv.le j33;have hA:=hA.le j33;have hVd:=hVd.le j33;have hA0:=hA0.le j33;have hA4:=hA4.le j33;have hA5:=hA5.le j33;obtain rfl:=q33;refine go 9 ?_;refine a0T (d8d _ vc c hvc f sf hfm _ l hv 60 oM) rfl rfl fun v36 q36=>?_;obtain⟨b36,rfl,hb36⟩:=q36;refine gS 2 38 (fun h38 p38=>?_) fun h38 p38=>?_
 ·refine go 29 ?_;exact a8J rfl
 ·refine go 3 ?_;refine a0n rfl rfl h38 (a0m (d6f _ _ _ _ _ _ _ b hb vn) rfl rfl (fun v41 I41 j41 q41=>?_));have hvc:=hvc.le j41;have hfm:=hfm.le j41;have hb:=hb.le j41;have hv:=hv.le j41;have hA:=hA.le j41;have hVd:=hVd.le j41;have hA0:=hA0.le j41;have hA4:=hA4.le j41;have hA5:=hA5.le j41;obtain⟨b41,rfl,hb41⟩:=q41;refine gS 3 44 (fun h44 p44=>?_) fun h44 p44=>?_
  ·refine go 23 ?_;exact a8J rfl
  ·refine gS 6 50 (fun h50 p50=>?_) fun h50 p50=>?_
   ·refine go 17 ?_;exact a8J rfl
   ·refine gC 7 (fun h55 p55=>?_) fun h55 p55=>?_
    ·refine go 9 ?_;exact a8J rfl
    ·have hk:=hb36 (by simpa using h38);have hfb:FewBk b:=hb41 (by simpa using h44);obtain⟨hfR,hwy⟩:=c5V hk.2;obtain⟨hsl,hl12⟩:=b6d hfR;have hsc:=(c5U (n:=0) hk.1).1;have hok:=d8M hob hfb;obtain⟨R,hR⟩:=b8P l;have hcl:=b0T (l:=l) (R:=R) (p:=vn);refine go 3 ?_;refine b5T (Ix:=(fun v2_ k2 h2 u2 J=>J)) (Lx:=(fun v2_ k2 h2 u2 J=>[(2,.slice A l.length c0),(3,.string vn),(4,.int .i64 (day)),(6,.pointer (some ⟨g6,0,none⟩)),(7,.pointer (some ⟨g7,0,none⟩)),(11,.pointer (some ⟨g11,0,none⟩)),(13,.bool true)])) (Hx:=(fun v2_ k2 h2 u2 J=>[.blk g11 48 (v2_.cs k2 h2 u2),.blk g7 56 [.slice A0 b.rules.length z0,v1,v2,v3,.slice A4 b.recalls.length z4,.slice A5 b.holds.length z5],.blk g6 29 [vc,ci f.op,ci f.n,sf]])) (p:=(fun v2_ k2 h2 u2 J=>ILe I41 J∧VdRd J k2 h2 u2 v2_)) ?_ ?_
     ·refine go 8 ?_;refine a0m (a4P _ vc c hvc hsc f _ hfm _ l hv oM hsl oM R hR _ _ _ _ _ _ b hb hok vn day) rfl rfl fun v62 I62 j62 q62=>?_;have hvc:=hvc.le j62;have hfm:=hfm.le j62;have hb:=hb.le j62;have hv:=hv.le j62;have hA:=hA.le j62;have hVd:=hVd.le j62;have hA0:=hA0.le j62;have hA4:=hA4.le j62;have hA5:=hA5.le j62;obtain⟨k62,u62,t62,rfl,hVa⟩:=q62;refine gS 3 65 (fun h65 p65=>?_) fun h65 p65=>?_
      ·refine gC 6 (fun h69 p69=>?_) fun h69 p69=>?_
       ·refine go 7 ?_;refine a0m (a4P _ vc c hvc hsc f _ hfm _ l hv oM hsl oM R hR _ _ _ _ _ _ b hb hok vn day) rfl rfl fun v75 I75 j75 q75=>?_;have hvc:=hvc.le j75;have hfm:=hfm.le j75;have hb:=hb.le j75;have hv:=hv.le j75;have hA:=hA.le j75;have hA0:=hA0.le j75;have hA4:=hA4.le j75;have hA5:=hA5.le j75;obtain⟨k75,u75,t75,rfl,hVb⟩:=q75;refine go 1 ?_;refine a0Y _ he rfl rfl rfl rfl rfl (Enc.one (α:=Vdt) ⟨_,_,_,rfl,hVb⟩) ?_;refine go 2 ?_;exact a5C ((decR f c b l (a0D l R vn) vn day)) (_) (_) (_) (I75) ⟨j62.trans j75,hVb⟩ sb rfl rfl
       ·refine go 2 ?_;exact a5C (vd) (_) (_) (_) (I62) ⟨j62,hVd⟩ sb rfl rfl
      ·refine go 9 ?_;exact a5C (vd) (_) (_) (_) (I62) ⟨j62,hVd⟩ sb rfl rfl
     ·intro v2_ k2 h2 u2 J ⟨hJ,hV2⟩;have hvc:=hvc.le hJ;have hfm:=hfm.le hJ;have hb:=hb.le hJ;have hv:=hv.le hJ;have hA:=hA.le hJ;have hA0:=hA0.le hJ;have hA4:=hA4.le hJ;have hA5:=hA5.le hJ;refine gS 7 79 (fun h79 p79=>?_) fun h79 p79=>?_
      ·refine go 21 ?_;exact a8J rfl
      ·refine go 7 ?_;refine a0n rfl rfl h79 (a0m (a9r _ vc c hvc hsc f _ hfm _ l hv oM hsl R hR _ _ _ _ _ _ b hb hok vn day v2_ _ _ _ hV2) rfl rfl (fun v86 I86 j86 q86=>?_));have hvc:=hvc.le j86;have hfm:=hfm.le j86;have hb:=hb.le j86;have hv:=hv.le j86;have hA:=hA.le j86;have hA0:=hA0.le j86;have hA4:=hA4.le j86;have hA5:=hA5.le j86;obtain rfl:=q86;refine gC 4 (fun h88 p88=>?_) fun h88 p88=>?_
       ·refine go 9 ?_;exact a8J rfl
       ·obtain⟨hva,hHn,hall⟩:=c7R (show v2_.kind=1 by simpa using h79) (show accF f c b l (a0D l R vn) vn day v2_=true by simpa using h88);have hov:=a4c (a3N hva) (R:=R) (p:=vn);have hwo:a3O (a0D l R vn)≤60:=Nat.le_trans (a7L (R:=R) (p:=vn) (a3N hva)) oM;have hHl:=Nat.le_trans (c2w (c:=c)) hwo;have hsh:=(b8D (hall _ (List.getElem_mem (show 0<(a1S c (a0D l R vn)).length from oM)))).2;refine go 7 ?_;refine a0m (d8e _ _ l hv oM hsl vn R hR) rfl rfl fun v92 I92 j92 q92=>?_;have hvc:=hvc.le j92;have hfm:=hfm.le j92;have hb:=hb.le j92;have hv:=hv.le j92;have hA:=hA.le j92;have hA0:=hA0.le j92;have hA4:=hA4.le j92;have hA5:=hA5.le j92;have Ro:=q92;obtain⟨OA,oc,rfl,hOA,hoc2,hom⟩:=id q92;refine go 6 ?_;refine o_v rfl (a1R ([vc]) m2 he rfl rfl rfl) ?_;refine go 2 ?_;refine a0m (d6h _ vc c hvc hsc _ (a0D l R vn) Ro oM (fun r hr=>hsl r (a6Z hr)) (c9T hov) oM) rfl rfl fun v96 I96 j96 q96=>?_;have hvc:=hvc.le j96;have hfm:=hfm.le j96;have hb:=hb.le j96;have hv:=hv.le j96;have hA:=hA.le j96;have hA0:=hA0.le j96;have hA4:=hA4.le j96;have hA5:=hA5.le j96;have Ro:=Ro.le j96;obtain⟨HA,hc,rfl,hHA,hhc,hhm⟩:=id q96;refine go 10 ?_;refine a0a ?_
        refine a0B ((0:Nat)) (I96) (fun i J1=>J1)
         (fun i J1=>[(3,.string vn),(4,.int .i64 (day)),(6,.pointer (some ⟨g6,0,none⟩)),(7,.pointer (some ⟨g7,0,none⟩)),(13,.bool true),(14,.slice OA (a0D l R vn).length oc),(15,.slice HA (a1S c (a0D l R vn)).length hc),(16,.int .i64 ((i:Nat):Int))])
         (fun i J1=>[.blk g7 56 [.slice A0 b.rules.length z0,v1,v2,v3,.slice A4 b.recalls.length z4,.slice A5 b.holds.length z5],.blk g6 29 [vc,ci f.op,ci f.n,sf]])
         (fun i J1=>i≤(a1S c (a0D l R vn)).length∧ILe I96 J1)
         (fun i J1=>(a1S c (a0D l R vn)).length-i) ⟨Nat.zero_le _,ILe.refl _⟩ rfl sb rfl ?_
        intro i J1 ⟨hi,hJ1⟩;have hfm:=hfm.le hJ1;have Ro:=Ro.le hJ1;have hHA:=hHA.le hJ1;have hA5:=hA5.le hJ1;have hvc:=hvc.le hJ1;have hb:=hb.le hJ1;have hA0:=hA0.le hJ1;have hA4:=hA4.le hJ1;refine gC 9 (fun h100 p100=>?_) fun h100 p100=>?_
        ·have hlt:i<(a1S c (a0D l R vn)).length:=oM;have hpl:=b0W (a0D l R vn) (a1S c (a0D l R vn))[i];obtain⟨hsf,_⟩:=b8D (hall _ (List.getElem_mem hlt));refine go 9 ?_;obtain⟨b107,o107,w107,e107,c107,r107⟩:=RdA.at_ hHA (i:=i) oM;obtain⟨q107,rfl,S107,d107,rfl,hS107,hd107,hm107⟩:=r107;refine go 3 ?_;refine a0m (b1f _ _ (a0D l R vn) Ro oM (fun r hr=>hsl r (a6Z hr)) _ (a1S c (a0D l R vn))[i] ⟨_,_,rfl,hS107,hd107,hm107⟩) rfl rfl fun v109 I109 jr q109=>?_;have hvc:=hvc.le jr;have hb:=hb.le jr;have hA0:=hA0.le jr;have hA4:=hA4.le jr;have hfm:=hfm.le jr;obtain⟨z109,rfl,hz109⟩:=q109;refine go 13 ?_;refine a0m (b3r _ vc c hvc hsc f sf hfm _ (a0J (a0D l R vn) (a1S c (a0D l R vn))[i]).1 hz109 oM (b0X (fun r hr=>hsl r (a6Z hr))) day) rfl rfl fun v116 I116 js q116=>?_;have hvc:=hvc.le js;have hb:=hb.le js;have hA0:=hA0.le js;have hA4:=hA4.le js;obtain⟨w,rfl,hw⟩:=q116;have hfit:=(c2k (f:=f) (c:=c) (day:=day) (show (a0J (a0D l R vn) (a1S c (a0D l R vn))[i]).1.length≤25 from oM)).1;refine go 6 fun g19=>?_
         refine go 1 ?_;refine a0Y _ he rfl rfl rfl rfl rfl (by simp[hw.one]) ?_;refine go 9 ?_;refine a0T (a6K _ w _ hw vn) rfl rfl fun v123 q123=>?_;obtain⟨vs123,rfl,s123,rfl,hs123⟩:=q123;refine go 5 fun g22=>?_
         refine go 1 ?_;refine a0Y _ he rfl rfl rfl rfl rfl (Enc.one (α:=Part) ⟨s123,rfl,hs123⟩) ?_;refine go 7 ?_;refine o_v rfl (OV.cast (u:=.bool false) (b7n rfl rfl) (congrArg Value.bool (by simp[hsf.err]))) ?_;refine go 2 ?_;refine a0z (a0n rfl rfl rfl (a0q rfl (OV.cast (u:=.bool false) (b1O rfl) (congrArg Value.bool (by rw[hsf.is];rfl))) ?_));refine go 3 ?_;refine a0z (a0n rfl rfl rfl (a0q rfl (OV.cast (u:=.bool false) (b1m m0 he rfl rfl) (congrArg Value.bool (hsf.sc))) ?_));refine go 11 fun v137=>?_
         refine go 3 ?_;refine a1X (a7r _ w _ hw vn hfit) rfl rfl fun v140 s140 q140=>?_;obtain⟨ns,rfl,hns,hnl,hnd⟩:=q140;refine a0i (l:=ns) rfl rfl ((a2T _ ns).flat) fun Ip jp Rp=>?_;have hvc:=hvc.le jp;have hb:=hb.le jp;have hA0:=hA0.le jp;have hA4:=hA4.le jp;have hw:=hw.le jp;have hns0:=Rp;refine go 1 ?_;refine a2q (hns0) rfl he he rfl rfl rfl rfl oM oM rfl fun v141 x141 f141=>?_;refine a0i (l:=vn::ns) rfl (by simp;omega) (.cons rfl f141) fun I141 jq R141=>?_;have hvc:=hvc.le jq;have hb:=hb.le jq;have hA0:=hA0.le jq;have hA4:=hA4.le jq;have hw:=hw.le jq;obtain⟨AN,cN,rfl,hAN,_,_⟩:=id R141;have hJx:=jr.trans (js.trans (jp.trans jq));refine go 9 ?_;refine a0a ?_
         refine a0B ((0:Nat)) (I141) (fun k J2=>J2)
          (fun k J2=>[(3,.string vn),(4,.int .i64 (day)),(6,.pointer (some ⟨g6,0,none⟩)),(7,.pointer (some ⟨g7,0,none⟩)),(13,.bool true),(14,.slice OA (a0D l R vn).length oc),(15,.slice HA (a1S c (a0D l R vn)).length hc),(16,.int .i64 ((i:Nat):Int)),(19,.pointer (some ⟨g19,0,none⟩)),(24,.slice AN (vn::ns).length cN),(25,.int .i64 ((k:Nat):Int))])
          (fun k J2=>[.blk g19 62 [w],.blk g7 56 [.slice A0 b.rules.length z0,v1,v2,v3,.slice A4 b.recalls.length z4,.slice A5 b.holds.length z5],.blk g6 29 [vc,ci f.op,ci f.n,sf]])
          (fun k J2=>k≤(vn::ns).length∧ILe I141 J2)
          (fun k J2=>(vn::ns).length-k) ⟨Nat.zero_le _,ILe.refl _⟩ rfl sb rfl ?_
         intro k J2 ⟨hk2,hJ2⟩;have hw:=hw.le hJ2;have hAN:=hAN.le hJ2;have hvc:=hvc.le hJ2;have hb:=hb.le hJ2;have hA0:=hA0.le hJ2;have hA4:=hA4.le hJ2;refine gC 9 (fun h145 p145=>?_) fun h145 p145=>?_
         ·have hlk:k<(vn::ns).length:=oM;have hin:=d4o hns hlk;refine go 5 ?_;refine b0e (Ix:=(fun b26 sq=>J2)) (Lx:=(fun b26 sq=>[(3,.string vn),(4,.int .i64 (day)),(6,.pointer (some ⟨g6,0,none⟩)),(7,.pointer (some ⟨g7,0,none⟩)),(13,.bool true),(14,.slice OA (a0D l R vn).length oc),(15,.slice HA (a1S c (a0D l R vn)).length hc),(16,.int .i64 ((i:Nat):Int)),(19,.pointer (some ⟨g19,0,none⟩)),(24,.slice AN (vn::ns).length cN),(25,.int .i64 ((k:Nat):Int)),(26,.pointer (some ⟨b26,0,none⟩))])) (Hx:=(fun b26 sq=>[.blk b26 85 (((a0e (runL f c (a0J (a0D l R vn) (a1S c (a0D l R vn))[i]).1 day).1 (vn::ns)[k]).getD zPart).cells sq),.blk g19 62 [w],.blk g7 56 [.slice A0 b.rules.length z0,v1,v2,v3,.slice A4 b.recalls.length z4,.slice A5 b.holds.length z5],.blk g6 29 [vc,ci f.op,ci f.n,sf]])) (p:=(fun b26 sq=>RdS J2 sq ((a0e (runL f c (a0J (a0D l R vn) (a1S c (a0D l R vn))[i]).1 day).1 (vn::ns)[k]).getD zPart).props)) ?_ ?_
          ·refine go 1 ?_;refine dG 0 3 ?_;obtain⟨b152,o152,w152,e152,c152,r152⟩:=RdA.at_ hAN (i:=k) hlk;obtain rfl:=r152;refine a0F 3 rfl rfl (by kernel_rfl) rfl (.refl _) rfl (a0l he rfl rfl e152 (k) oM hlk) ?_;refine dG 4 1 ?_;refine dT2 5 9 ?_ ?_
           ·refine a0T (a6K _ w _ hw (vn::ns)[k]) rfl rfl fun v154 q154=>?_;obtain⟨vs154,rfl,sq,rfl,hq⟩:=q154;refine dH 6 3 ?_;refine go 1 fun g26=>?_
            refine dH 10 0 ?_;refine a0Y _ he rfl rfl rfl rfl rfl (Enc.one (α:=Part) ⟨sq,rfl,hq⟩) ?_;refine dG 11 1 ?_;refine go 2 ?_;exact a3G (_) (sq) hq sb rfl rfl
           ·refine go 1 fun g26=>?_
            refine dH 5 0 ?_;refine a0T (a6K _ w _ hw (vn::ns)[k]) rfl rfl fun v154 q154=>?_;obtain⟨vs154,rfl,sq,rfl,hq⟩:=q154;refine dG 6 3 ?_;refine dH 10 0 ?_;refine a0Y _ he rfl rfl rfl rfl rfl (Enc.one (α:=Part) ⟨sq,rfl,hq⟩) ?_;refine dG 11 1 ?_;refine go 2 ?_;exact a3G (_) (sq) hq sb rfl rfl
          ·intro b26 sq hq;refine go 7 ?_
           refine a0B ((0:Nat)) (J2) (fun n J3=>J3)
            (fun n J3=>[(3,.string vn),(4,.int .i64 (day)),(6,.pointer (some ⟨g6,0,none⟩)),(7,.pointer (some ⟨g7,0,none⟩)),(13,.bool true),(14,.slice OA (a0D l R vn).length oc),(15,.slice HA (a1S c (a0D l R vn)).length hc),(16,.int .i64 ((i:Nat):Int)),(19,.pointer (some ⟨g19,0,none⟩)),(24,.slice AN (vn::ns).length cN),(25,.int .i64 ((k:Nat):Int)),(26,.pointer (some ⟨b26,0,none⟩)),(28,.int .i64 ((n:Nat):Int))])
            (fun n J3=>[.blk b26 85 (((a0e (runL f c (a0J (a0D l R vn) (a1S c (a0D l R vn))[i]).1 day).1 (vn::ns)[k]).getD zPart).cells sq),.blk g19 62 [w],.blk g7 56 [.slice A0 b.rules.length z0,v1,v2,v3,.slice A4 b.recalls.length z4,.slice A5 b.holds.length z5],.blk g6 29 [vc,ci f.op,ci f.n,sf]])
            (fun n J3=>n≤b.rules.length∧ILe J2 J3)
            (fun n J3=>b.rules.length-n) ⟨Nat.zero_le _,ILe.refl _⟩ rfl sb rfl ?_
           intro n J3 ⟨hn,hJ3⟩;have hw:=hw.le hJ3;have hvc:=hvc.le hJ3;have hb:=hb.le hJ3;have hA0:=hA0.le hJ3;have hA4:=hA4.le hJ3;refine gC 10 (fun h161 p161=>?_) fun h161 p161=>?_
           ·have hm:n<b.rules.length:=oM;have hor:=hok.rules _ (List.getElem_mem hm);refine go 9 ?_;obtain⟨b167,o167,w167,e167,c167,r167⟩:=RdA.at_ hA0 (i:=n) hm;obtain⟨s167,rfl,hs167⟩:=r167;refine o_v rfl (a0l he rfl rfl e167 (n) oM hm) ?_;refine go 3 fun g29=>?_
            refine go 1 ?_;refine a0Y _ he rfl rfl rfl rfl rfl (Enc.one (α:=Rul) (x:=b.rules[n]) ⟨s167,rfl,hs167⟩) ?_;refine gS 10 174 (fun h174 p174=>?_) fun h174 p174=>?_
            ·refine go 2 ?_;refine a0z (a0n rfl rfl h174 (a0q rfl (a1R (b.rules[n].cond.cs s167) m0 he rfl rfl rfl) ?_));refine go 4 ?_;refine a0n rfl rfl h174 (a0m (b3t _ w _ hw hfit b.rules[n].cond hor.2.2 _ (a8V hs167) _ day) rfl rfl (fun v181 I181 j181 q181=>?_));have hb:=hb.le j181;obtain rfl:=q181;refine gS 3 184 (fun h184 p184=>?_) fun h184 p184=>?_
             ·refine go 8 ?_;refine a0n rfl rfl h184 (a0y (b7F _ v3 b.conc hb.r3 _ b.rules[n].name day) rfl rfl ?_);refine a0z (a0n rfl rfl h184 (a0q rfl (OV.cast (u:=.bool false) (b1O rfl) (congrArg Value.bool (d2h (hsf.rules _ hin _ (List.getElem_mem hm)) h174 h184))) ?_));refine go 13 ?_;refine a0a ?_;exact a0o (n+1) (I181) ⟨oM,hJ3.trans j181⟩ oM rfl sb rfl
             ·refine go 22 ?_;refine a0a ?_;exact a0o (n+1) (I181) ⟨oM,hJ3.trans j181⟩ oM rfl sb rfl
            ·refine go 32 ?_;refine a0a ?_;exact a0o (n+1) (J3) ⟨oM,hJ3⟩ oM rfl sb rfl
           ·refine go 12 ?_
            refine a0B ((0:Nat)) (J3) (fun n J4=>J4)
             (fun n J4=>[(3,.string vn),(4,.int .i64 (day)),(6,.pointer (some ⟨g6,0,none⟩)),(7,.pointer (some ⟨g7,0,none⟩)),(13,.bool true),(14,.slice OA (a0D l R vn).length oc),(15,.slice HA (a1S c (a0D l R vn)).length hc),(16,.int .i64 ((i:Nat):Int)),(19,.pointer (some ⟨g19,0,none⟩)),(24,.slice AN (vn::ns).length cN),(25,.int .i64 ((k:Nat):Int)),(26,.pointer (some ⟨b26,0,none⟩)),(30,.int .i64 ((n:Nat):Int))])
             (fun n J4=>[.blk b26 85 (((a0e (runL f c (a0J (a0D l R vn) (a1S c (a0D l R vn))[i]).1 day).1 (vn::ns)[k]).getD zPart).cells sq),.blk g19 62 [w],.blk g7 56 [.slice A0 b.rules.length z0,v1,v2,v3,.slice A4 b.recalls.length z4,.slice A5 b.holds.length z5],.blk g6 29 [vc,ci f.op,ci f.n,sf]])
             (fun n J4=>n≤b.recalls.length∧ILe J3 J4)
             (fun n J4=>b.recalls.length-n) ⟨Nat.zero_le _,ILe.refl _⟩ rfl sb rfl ?_
            intro n J4 ⟨hn,hJ4⟩;have hw:=hw.le hJ4;have hvc:=hvc.le hJ4;have hb:=hb.le hJ4;have hA4:=hA4.le hJ4;refine gC 10 (fun h199 p199=>?_) fun h199 p199=>?_
            ·have hm:n<b.recalls.length:=oM;have hor:=hok.recalls _ (List.getElem_mem hm);refine go 9 ?_;obtain⟨b205,o205,w205,e205,c205,r205⟩:=RdA.at_ hA4 (i:=n) hm;obtain⟨s205,rfl,hs205⟩:=r205;refine o_v rfl (a0l he rfl rfl e205 (n) oM hm) ?_;refine go 3 fun g31=>?_
             refine go 1 ?_;refine a0Y _ he rfl rfl rfl rfl rfl (Enc.one (α:=Rul) (x:=b.recalls[n]) ⟨s205,rfl,hs205⟩) ?_;refine gS 10 212 (fun h212 p212=>?_) fun h212 p212=>?_
             ·refine go 2 ?_;refine a0z (a0n rfl rfl h212 (a0q rfl (a1R (b.recalls[n].cond.cs s205) m0 he rfl rfl rfl) ?_));refine go 4 ?_;refine a0n rfl rfl h212 (a0m (b3t _ w _ hw hfit b.recalls[n].cond hor.2.2 _ (a8V hs205) _ day) rfl rfl (fun v219 I219 j219 q219=>?_));obtain rfl:=q219;refine a0z (a0n rfl rfl h212 (a0q rfl (OV.cast (u:=.bool false) (b7n rfl rfl) (congrArg Value.bool (d5w (hsf.recs _ hin _ (List.getElem_mem hm)) h212))) ?_));refine go 13 ?_;refine a0a ?_;exact a0o (n+1) (I219) ⟨oM,hJ4.trans j219⟩ oM rfl sb rfl
             ·refine go 21 ?_;refine a0a ?_;exact a0o (n+1) (J4) ⟨oM,hJ4⟩ oM rfl sb rfl
            ·refine go 8 ?_;refine o_v rfl (a1R ([vc]) m3 he rfl rfl rfl) ?_;refine go 7 ?_;refine cV (b0l _ vc c hvc v1 b.subs hb.r1 w _ hw _ day) ?_;refine o_v rfl (OV.cast (u:=.bool false) (b1O rfl) (congrArg Value.bool (by rw[hsf.perm _ hin];rfl))) ?_;refine go 12 ?_;refine a0a ?_;exact a0o (k+1) (J4) ⟨oM,hJ2.trans (hJ3.trans hJ4)⟩ oM rfl sb rfl
         ·refine go 12 ?_;refine a0a ?_;exact a0o (i+1) (J2) ⟨oM,hJ1.trans (hJx.trans hJ2)⟩ oM rfl sb rfl
        ·refine go 12 ?_
         refine a0x (α:=Nat) 0 (fun n=>J1)
          (fun n=>[(3,.string vn),(4,.int .i64 (day)),(6,.pointer (some ⟨g6,0,none⟩)),(7,.pointer (some ⟨g7,0,none⟩)),(13,.bool true),(14,.slice OA (a0D l R vn).length oc),(15,.slice HA (a1S c (a0D l R vn)).length hc),(32,.int .i64 ((n:Nat):Int))])
          (fun n=>[.blk g7 56 [.slice A0 b.rules.length z0,v1,v2,v3,.slice A4 b.recalls.length z4,.slice A5 b.holds.length z5],.blk g6 29 [vc,ci f.op,ci f.n,sf]])
          (fun n=>n≤b.holds.length)
          (fun n=>b.holds.length-n) (Nat.zero_le _) rfl sb rfl ?_
         intro n hn;refine gC 10 (fun h236 p236=>?_) fun h236 p236=>?_
         ·have hm:n<b.holds.length:=oM;refine go 9 ?_;obtain⟨b242,o242,w242,e242,c242,r242⟩:=RdA.at_ hA5 (i:=n) hm;obtain⟨a242,b242,rfl,ha242,hb242⟩:=r242;refine o_v rfl (a0l he rfl rfl e242 (n) oM hm) ?_;refine gS 5 247 (fun h247 p247=>?_) fun h247 p247=>?_
          ·refine go 3 ?_;obtain⟨b251,o251,w251,e251,c251,r251⟩:=RdA.at_ hA5 (i:=n) hm;obtain⟨a251,b251,rfl,ha251,hb251⟩:=r251;refine a0z (a0n rfl rfl h247 (a0q rfl (a0l he rfl rfl e251 (n) oM hm) ?_));refine go 2 ?_;refine a0n rfl rfl h247 (a0y ((show FnV Tryz.prog 29 #[.agg (b.holds[n].cs a251 b251).toArray] J1 (.bool false) from d0O (hsh _ (List.getElem_mem hm)) h247▸c7E _ b.holds[n] a251 b251 ha251 hb251)) rfl rfl ?_);refine go 13 ?_;exact a0w (n+1) oM oM rfl sb rfl
          ·refine go 19 ?_;exact a0w (n+1) oM oM rfl sb rfl
         ·refine go 11 ?_;refine a0z (a0n rfl rfl rfl (a0q rfl (OV.cast (u:=.bool true) (c4M rfl rfl) (congrArg Value.bool (decide_eq_true oM))) ?_));refine go 6 ?_;exact a8J rfl
end Go.Proofs.YtgmkjpafapgccaaGreat
namespace Go.Proofs.YtgmkjpafapgccaaGreat
open Go Go.Sx
set_option linter.all false
theorem T.cel_102:Tryz.prog.cellsOf 102=3:=by kernel_rfl
theorem T.cel_109:Tryz.prog.cellsOf 109=2:=by kernel_rfl
theorem T.cel_128:Tryz.prog.cellsOf 128=6:=by kernel_rfl
theorem T.cel_130:Tryz.prog.cellsOf 130=14:=by kernel_rfl
theorem T.cel_149:Tryz.prog.cellsOf 149=3:=by kernel_rfl
theorem T.cel_157:Tryz.prog.cellsOf 157=3:=by kernel_rfl
theorem T.cel_181:Tryz.prog.cellsOf 181=5:=by kernel_rfl
theorem T.cel_189:Tryz.prog.cellsOf 189=3:=by kernel_rfl
theorem T.cel_24:Tryz.prog.cellsOf 24=1:=by kernel_rfl
theorem T.cel_245:Tryz.prog.cellsOf 245=5:=by kernel_rfl
theorem T.cel_27:Tryz.prog.cellsOf 27=3:=by kernel_rfl
theorem T.cel_29:Tryz.prog.cellsOf 29=4:=by kernel_rfl
theorem T.cel_3:Tryz.prog.cellsOf 3=1:=by kernel_rfl
theorem T.cel_34:Tryz.prog.cellsOf 34=6:=by kernel_rfl
theorem T.cel_36:Tryz.prog.cellsOf 36=8:=by kernel_rfl
theorem T.cel_44:Tryz.prog.cellsOf 44=3:=by kernel_rfl
theorem T.cel_48:Tryz.prog.cellsOf 48=6:=by kernel_rfl
theorem T.cel_56:Tryz.prog.cellsOf 56=6:=by kernel_rfl
theorem T.cel_81:Tryz.prog.cellsOf 81=2:=by kernel_rfl
theorem T.cel_9:Tryz.prog.cellsOf 9=1:=by kernel_rfl
theorem T.cel_95:Tryz.prog.cellsOf 95=4:=by kernel_rfl
instance T.fds_102:Has (a0C Tryz.prog 102) [(9,0,1),(9,1,1),(3,2,1)]:=hk
instance T.fds_109:Has (a0C Tryz.prog 109) [(72,0,1),(4,1,1)]:=hk
instance T.fds_128:Has (a0C Tryz.prog 128) [(81,0,2),(81,2,2),(81,4,2)]:=hk
instance T.fds_130:Has (a0C Tryz.prog 130) [(3,0,1),(3,1,1),(9,2,1),(9,3,1),(9,4,1),(9,5,1),(9,6,1),(9,7,1),(128,8,6)]:=hk
instance T.fds_149:Has (a0C Tryz.prog 149) [(9,0,1),(4,1,1),(147,2,1)]:=hk
instance T.fds_157:Has (a0C Tryz.prog 157) [(3,0,1),(9,1,1),(9,2,1)]:=hk
instance T.fds_181:Has (a0C Tryz.prog 181) [(9,0,1),(9,1,1),(9,2,1),(9,3,1),(3,4,1)]:=hk
instance T.fds_189:Has (a0C Tryz.prog 189) [(9,0,1),(88,1,1),(3,2,1)]:=hk
instance T.fds_24:Has (a0C Tryz.prog 24) [(22,0,1)]:=hk
instance T.fds_245:Has (a0C Tryz.prog 245) [(9,0,1),(9,1,1),(9,2,1),(3,3,1),(3,4,1)]:=hk
instance T.fds_27:Has (a0C Tryz.prog 27) [(3,0,1),(3,1,1),(25,2,1)]:=hk
instance T.fds_29:Has (a0C Tryz.prog 29) [(24,0,1),(27,1,3)]:=hk
instance T.fds_34:Has (a0C Tryz.prog 34) [(3,0,1),(9,1,1),(9,2,1),(3,3,1),(3,4,1),(32,5,1)]:=hk
instance T.fds_36:Has (a0C Tryz.prog 36) [(9,0,1),(9,1,1),(34,2,6)]:=hk
instance T.fds_44:Has (a0C Tryz.prog 44) [(3,0,1),(3,1,1),(42,2,1)]:=hk
instance T.fds_48:Has (a0C Tryz.prog 48) [(3,0,1),(44,1,3),(45,4,1),(46,5,1)]:=hk
instance T.fds_56:Has (a0C Tryz.prog 56) [(50,0,1),(51,1,1),(52,2,1),(53,3,1),(50,4,1),(54,5,1)]:=hk
instance T.fds_81:Has (a0C Tryz.prog 81) [(3,0,1),(3,1,1)]:=hk
instance T.fds_95:Has (a0C Tryz.prog 95) [(9,0,1),(9,1,1),(45,2,1),(45,3,1)]:=hk
namespace lawTopSafe
open Go.ChangeShapes Go.WideShapes Go.ChangeAt Go.RowKit Go.ChangeMaps Go.MapKept
theorem own:ownKnob Tryz.prog.godebug=none:=by kernel_rfl
set_option maxRecDepth 100000 in
theorem lifted (os:Os) (started:os.Started) (H:Type) (enc:TypeId×Value→H) :
  ReturnsInHanded {} Tryz.checked os 5 .any (Rows.topSafeSpec.pre6 enc Tryz.prog Tryz.f5 Rows.topSafeRow.domain false) (Rows.topSafeSpec.post enc Tryz.prog Tryz.f5 false true false false):=by
 refine returnsInHanded_of_change (C:=Tryz.checked) own started (by kernel_rfl) Tryz.func5
  (ChangeSpec.witness6 (enc:=enc) (C:=Tryz.checked) false ⟨#[],#[.agg #[.slice none 0 0,.int .i64 0,.int .i64 0,.slice none 0 0],.agg #[.slice none 0 0,.slice none 0 0,.slice none 0 0,.slice none 0 0,.slice none 0 0,.slice none 0 0],.slice none 0 0,.string ⟨#[]⟩,.int .i64 0,.agg #[.int .i64 0,.int .i64 0,.int .i64 0,.slice none 0 0,.slice none 0 0,.slice none 0 0]],[]⟩ 8 (by kernel_rfl) (by kernel_rfl) (by kernel_rfl) (by kernel_rfl)) ?_
 intro W base args ds gs before hval0 hW hcnd _;have hval:∀(j:Nat) t v,Tryz.f5.params[j]? = some t→args[j]? = some v→Value.okWide Tryz.prog W .any base t v:=hval0;have hW':=hW;obtain⟨p,q,hA0,hV,rfl,hfz,hnd⟩:=hW;have hA:DataW.TrodAll enc Tryz.prog W 0 (fun _=>true) true Tryz.f5.params.toList args.toList ds p:=hA0;rw[Tryz.params5]at hA hval
 obtain⟨v0,vs0,d0,ds0,p0,q0,hargs,rfl,rfl,h0,r0⟩:=trodAll_cons hA;obtain⟨v1,vs1,d1,ds1,p1,q1,rfl,rfl,rfl,h1,r1⟩:=trodAll_cons r0;obtain⟨v2,vs2,d2,ds2,p2,q2,rfl,rfl,rfl,h2,r2⟩:=trodAll_cons r1;obtain⟨v3,vs3,d3,ds3,p3,q3,rfl,rfl,rfl,h3,r3⟩:=trodAll_cons r2;obtain⟨v4,vs4,d4,ds4,p4,q4,rfl,rfl,rfl,h4,r4⟩:=trodAll_cons r3;obtain⟨v5,vs5,d5,ds5,p5,q5,rfl,rfl,rfl,h5,r5⟩:=trodAll_cons r4;obtain⟨rfl,rfl,rfl⟩:=trodAll_nil r5;obtain rfl:args=#[v0,v1,v2,v3,v4,v5]:=by cases args;simp_all
 obtain⟨rfl,rfl⟩:=trodVars_none hV;clear hA0 hval0;obtain⟨cs0,rfl,hz0⟩:=a8E T.fds_29.eq (hval 0 29 v0 rfl rfl);obtain⟨fu0,hf0⟩:=h0;obtain⟨x0,⟨vc0,sf0,e0,R0,F0⟩,G0⟩:=(b6H T.fds_29.eq T.cel_29 (c0p T.fds_24.eq T.cel_24 (a1n T.und_22.eq T.cel_149 rfl (c0n T.fds_149.eq T.cel_149 (a1t T.und_9.eq) (b2p T.und_4.eq) (a1n T.und_147.eq T.cel_189 rfl (c0o T.fds_189.eq T.cel_189 (a1t T.und_9.eq) (a1n T.und_88.eq T.cel_9 rfl (a1t T.und_9.eq)) (a1M T.und_3.eq)))))) (b2q T.fds_27.eq T.cel_27 T.und_25.eq T.und_3.eq)) enc W 0 _ true fu0 _ _ hf0;obtain rfl:cs0=#[vc0,ci x0.dam.op,ci x0.dam.n,sf0]:=Array.toList_inj.1 e0;obtain⟨cs1,rfl,hz1⟩:=a8E T.fds_56.eq (hval 1 56 v1 rfl rfl);obtain⟨fu1,hf1⟩:=h1;obtain⟨x1,⟨va1,vb1,vc1,vd1,ve1,vf1,e1,R1⟩,G1⟩:=(c3k T.fds_56.eq T.cel_56 (a1n T.und_50.eq T.cel_36 rfl (c3s T.fds_36.eq T.cel_36 (a1t T.und_9.eq) (c0l T.fds_34.eq T.cel_34 T.und_32.eq T.und_3.eq (a1t T.und_9.eq)))) (a1n T.und_51.eq T.cel_181 rfl (c3t T.fds_181.eq T.cel_181 (a1t T.und_9.eq) (a1M T.und_3.eq))) (a1n T.und_52.eq T.cel_245 rfl (c3m T.fds_245.eq T.cel_245 (a1t T.und_9.eq) (a1M T.und_3.eq))) (a1n T.und_53.eq T.cel_102 rfl (c3l T.fds_102.eq T.cel_102 (a1t T.und_9.eq) (a1M T.und_3.eq))) (a1n T.und_54.eq T.cel_95 rfl (c3p T.fds_95.eq T.cel_95 (a1t T.und_9.eq) (a1n T.und_45.eq T.cel_3 rfl (a1M T.und_3.eq))))) enc W 0 _ true fu1 _ _ hf1;obtain rfl:cs1=#[va1,vb1,vc1,vd1,ve1,vf1]:=Array.toList_inj.1 e1;obtain⟨s2,n2,c2,rfl⟩:=okWide_slice T.und_30.eq (hval 2 30 v2 rfl rfl);obtain⟨fu2,hf2⟩:=h2;obtain⟨l2,⟨u2,e2,R2⟩,G2⟩:=(a1n T.und_30.eq T.cel_109 rfl (c3r T.fds_109.eq T.cel_109 (a1n T.und_72.eq T.cel_130 rfl (c3n T.fds_130.eq T.cel_130 (a1M T.und_3.eq) (a1t T.und_9.eq) (c3u T.fds_128.eq T.cel_128 (c3q T.fds_81.eq T.cel_81 (a1M T.und_3.eq))))) (b2p T.und_4.eq))) enc W 0 _ true fu2 _ _ hf2
 cases e2
 obtain⟨a3,rfl,rfl,rfl,w3⟩:=open_string T.und_9.eq (hval 3 9 v3 rfl rfl) h3;obtain⟨a4,rfl,rfl,rfl,w4⟩:=open_int T.und_3.eq (hval 4 3 v4 rfl rfl) h4;obtain⟨cs5,rfl,hz5⟩:=a8E T.fds_48.eq (hval 5 48 v5 rfl rfl);obtain⟨fu5,hf5⟩:=h5;obtain⟨x5,⟨va5,vb5,vc5,e5,R5⟩,G5⟩:=(c3v T.fds_48.eq T.cel_48 (a1M T.und_3.eq) (b2q T.fds_44.eq T.cel_44 T.und_42.eq T.und_3.eq) (a1n T.und_45.eq T.cel_3 rfl (a1M T.und_3.eq)) (a1n T.und_46.eq T.cel_157 rfl (c3o T.fds_157.eq T.cel_157 (a1M T.und_3.eq) (a1t T.und_9.eq)))) enc W 0 _ true fu5 _ _ hf5;obtain rfl:cs5=(x5.cs va5 vb5 vc5).toArray:=Array.toList_inj.1 e5;exact c2J (s:=Rows.topSafeSpec) Tryz.call5 (c6E (Iw W) vc0 x0.kinds R0 G0.1 x0.dam sf0 F0 G0.2 va1 vb1 vc1 vd1 ve1 vf1 x1 R1 G1 _ l2 R2 G2 a3 w3 a4 w4 x5 va5 vb5 vc5 R5) hW' (by kernel_rfl) (by kernel_rfl) rfl T.und_4.eq rfl rfl
end lawTopSafe
end Go.Proofs.YtgmkjpafapgccaaGreat
