
import Derived.Test.YtgmkjpafapgccaaGreatZTeg
import Derived.ChangeMaps5
import Derived.OpenShut
import Derived.ProofKit
import Derived.Test.YtgmkjpafapgccaaGreatRows
namespace Go.Proofs.YtgmkjpafapgccaaGreat
open Go Go.Sx
set_option linter.all false
set_option maxRecDepth 20000
set_option maxHeartbeats 4000000
instance T.by_38:Has (a2h Tryz.prog 38) ([.int .i64 0,.int .i64 0,.int .i64 0,.bool false,.string ⟨#[]⟩,.string ⟨#[]⟩,.int .i64 0,.string ⟨#[]⟩,.string ⟨#[]⟩,.int .i64 0,.int .i64 0,.slice none 0 0],12,144):=hk
instance T.pl_102:Has (plK Tryz.prog 102) [(0,1),(1,1),(2,1)]:=hk
instance T.pl_38:Has (plK Tryz.prog 38) [(0,1),(1,1),(2,1),(3,1),(4,8)]:=hk
theorem c2I (I:IMap) (vc:Value) (c:List Kind) (hvc:RdS I vc c) (hoc:∀x∈c,d3q x) (f:Fm) (sf:Value) (hfm:FmRd I [ci f.op,ci f.n,sf] f) (hof:OkFm f) (v0 v1 v2 v3 v4 v5:Value) (b:Bok) (hb:BokRd I v0 v1 v2 v3 v4 v5 b) (hob:OkBk b) (v:Value) (l:List Rep) (hv:RdS I v l) (hok:∀x∈l,d8j x) (vn:ByteArray) (wvn:vn.size≤maxLen) (day:Int) (wday:(Lit.int .i64 day).wf=true)  :
    FnV Tryz.prog 4 #[.agg #[vc,ci f.op,ci f.n,sf],.agg #[v0,v1,v2,v3,v4,v5],v,.string vn,.int .i64 (day)] I (.bool true):=by
 obtain⟨A,c0,rfl,hA,hcc,hmm⟩:=id hv;refine enter Tryz.func4 Tryz.call4 rfl Tryz.ntmps4 rfl fun w0=>?_;refine go 4 fun g5=>?_
 refine go 2 fun g6=>?_
 refine go 6 ?_;refine a0m (d6e _) rfl rfl fun v26 I26 j26 q26=>?_
 try have hvc:=hvc.le j26
 try have hfm:=hfm.le j26
 try have hb:=hb.le j26
 try have hv:=hv.le j26
 try have hA:=hA.le j26
 try have hVa:=hVa.le j26
 try have Ro:=Ro.le j26
 try have hHA:=hHA.le j26
 try have hz78:=hz78.le j26
 try have hFt:=hFt.le j26
 try have hHi:=hHi.le j26
 try have hFa:=hFa.le j26
 obtain rfl:=q26;refine go 7 ?_;refine a0m (b3m _ vc c hvc (d4I hoc) f sf hfm _ [] RdS.nil' (by simp) (fun e he=>by cases he) 0) rfl rfl fun v29 I29 j29 q29=>?_
 try have hvc:=hvc.le j29
 try have hfm:=hfm.le j29
 try have hb:=hb.le j29
 try have hv:=hv.le j29
 try have hA:=hA.le j29
 try have hVa:=hVa.le j29
 try have Ro:=Ro.le j29
 try have hHA:=hHA.le j29
 try have hz78:=hz78.le j29
 try have hFt:=hFt.le j29
 try have hHi:=hHi.le j29
 try have hFa:=hFa.le j29
 obtain⟨w29,rfl,hw29⟩:=q29;refine go 6 fun g12=>?_
 refine go 1 ?_;refine a1c _ he rfl rfl rfl rfl rfl (by simp[RdS.one hw29]) ?_;refine go 10 ?_;refine a1a (d8c _ vc c hvc f sf hfm _ l hv 60 oM) rfl rfl fun v35 q35=>?_;obtain⟨b35,rfl,hb35⟩:=q35;refine gS 2 37 (fun h37 p37=>?_) fun h37 p37=>?_
 ·refine go 26 ?_;exact a8E rfl
 ·refine go 3 ?_;refine a0o rfl rfl h37 (a0m (d6d _ v0 v1 v2 v3 v4 v5 b hb vn) rfl rfl (fun v40 I40 j40 q40=>?_))
  try have hvc:=hvc.le j40
  try have hfm:=hfm.le j40
  try have hb:=hb.le j40
  try have hv:=hv.le j40
  try have hA:=hA.le j40
  try have hVa:=hVa.le j40
  try have Ro:=Ro.le j40
  try have hHA:=hHA.le j40
  try have hz78:=hz78.le j40
  try have hFt:=hFt.le j40
  try have hHi:=hHi.le j40
  try have hFa:=hFa.le j40
  obtain⟨b40,rfl,hb40⟩:=q40;refine gS 3 43 (fun h43 p43=>?_) fun h43 p43=>?_
  ·refine go 20 ?_;exact a8E rfl
  ·refine go 2 ?_;refine a0o rfl rfl h43 (a0y (d2Z _ _ l hv (b2V (b7P (hb35 (by simpa using h37)).2).1).1) rfl rfl ?_);refine gS 3 48 (fun h48 p48=>?_) fun h48 p48=>?_
   ·refine go 15 ?_;exact a8E rfl
   ·refine gC 5 (fun h51 p51=>?_) fun h51 p51=>?_
    ·refine go 9 ?_;exact a8E rfl
    ·have hk:=hb35 (by simpa using h37);have hfb:FewBk b:=hb40 (by simpa using h43);have hva:(l.any fun r=>!a0e r)=false:=by simpa using h48
     have he0:(runL f c [] 0).2.2=0:=by simpa using h51
     obtain⟨hfR,hwy⟩:=b7P hk.2;obtain⟨hsl,hl12⟩:=b2V hfR;have hsc:=(c5U (n:=0) hk.1).1;have hok:=d8K hob hfb;obtain⟨R,hR⟩:=b8M l;have hcl:=b0M (l:=l) (R:=R) (p:=vn);have hov:=a4c (a3N hva) (R:=R) (p:=vn);have hwo:a3O (a0B l R vn)≤60:=Nat.le_trans (a7J (R:=R) (p:=vn) (a3N hva)) oM;obtain⟨hx1,hx2,hx3⟩:=c2e (f:=f) (b:=b) (R:=R) (vn:=vn) (day:=day) he0 hva;have hHl:=Nat.le_trans (c2v (c:=c)) hwo;refine go 10 ?_;refine a0m (a5z _ vc c hvc hsc f _ hfm _ l hv oM hsl oM R hR _ _ _ _ _ _ b hb hok vn day) rfl rfl fun v58 I58 j58 q58=>?_
     try have hvc:=hvc.le j58
     try have hfm:=hfm.le j58
     try have hb:=hb.le j58
     try have hv:=hv.le j58
     try have hA:=hA.le j58
     try have hVa:=hVa.le j58
     try have Ro:=Ro.le j58
     try have hHA:=hHA.le j58
     try have hz78:=hz78.le j58
     try have hFt:=hFt.le j58
     try have hHi:=hHi.le j58
     try have hFa:=hFa.le j58
     obtain⟨kv,hv2,uv,rfl,hVa⟩:=q58;refine go 2 fun g15=>?_
     refine go 1 ?_;refine a1c _ he rfl rfl rfl rfl rfl (Enc.one (α:=Vdt) ⟨_,_,_,rfl,hVa⟩) ?_;refine go 7 ?_;refine a0m (d8d _ _ l hv oM hsl vn R hR) rfl rfl fun v61 I61 j61 q61=>?_
     try have hvc:=hvc.le j61
     try have hfm:=hfm.le j61
     try have hb:=hb.le j61
     try have hv:=hv.le j61
     try have hA:=hA.le j61
     try have hVa:=hVa.le j61
     try have Ro:=Ro.le j61
     try have hHA:=hHA.le j61
     try have hz78:=hz78.le j61
     try have hFt:=hFt.le j61
     try have hHi:=hHi.le j61
     try have hFa:=hFa.le j61
     have Ro:=q61;obtain⟨OA,oc,rfl,hOA,hoc2,hom⟩:=id q61;refine go 6 ?_;refine o_v rfl (a1V ([vc]) m3 he rfl rfl rfl) ?_;refine go 2 ?_;refine a0m (d6f _ vc c hvc hsc _ (a0B l R vn) Ro oM (fun r hr=>hsl r (a6Y hr)) (c9S hov) oM) rfl rfl fun v65 I65 j65 q65=>?_
     try have hvc:=hvc.le j65
     try have hfm:=hfm.le j65
     try have hb:=hb.le j65
     try have hv:=hv.le j65
     try have hA:=hA.le j65
     try have hVa:=hVa.le j65
     try have Ro:=Ro.le j65
     try have hHA:=hHA.le j65
     try have hz78:=hz78.le j65
     try have hFt:=hFt.le j65
     try have hHi:=hHi.le j65
     try have hFa:=hFa.le j65
     obtain⟨HA,hc,rfl,hHA,hhc,hhm⟩:=id q65;obtain⟨HI,hic,rfl,hHi,_,_⟩:=id hVa.h;obtain⟨FI,fic,rfl,_,_,_⟩:=id hVa.f;refine go 20 ?_;refine a0b ?_;refine a0a ?_
     refine a3l ((0:Nat)) ((0:Nat)) (false) (I65) (fun i bd nb J=>J)
      (fun i bd nb J=>[(2,.slice A l.length c0),(3,.string vn),(4,.int .i64 (day)),(5,.pointer (some ⟨g5,0,none⟩)),(6,.pointer (some ⟨g6,0,none⟩)),(11,.bool true),(15,.pointer (some ⟨g15,0,none⟩)),(16,.slice OA (a0B l R vn).length oc),(17,.slice HA (a2m c (a0B l R vn)).length hc),(18,.int .i64 ((bd:Nat):Int)),(19,.bool nb),(20,.int .i64 ((i:Nat):Int))])
      (fun i bd nb J=>[.blk g15 48 ((decR f c b l (a0B l R vn) vn day).cs kv (.slice HI (decR f c b l (a0B l R vn) vn day).hist.length hic) (.slice FI (decR f c b l (a0B l R vn) vn day).faults.length fic)),.blk g6 56 [v0,v1,v2,v3,v4,v5],.blk g5 29 [vc,ci f.op,ci f.n,sf]])
      (fun i bd nb J=>i≤(a2m c (a0B l R vn)).length∧ILe I65 J∧bd=b9t (ftsF f c b (a0B l R vn) vn day) ((a2m c (a0B l R vn)).take i)∧nb=((a2m c (a0B l R vn)).take i).any (nmT (ftsF f c b (a0B l R vn) vn day) (decR f c b l (a0B l R vn) vn day)))
      (fun i bd nb J=>(a2m c (a0B l R vn)).length-i) ⟨Nat.zero_le _,ILe.refl _,rfl,rfl⟩ rfl sb rfl ?_
     intro i bd nb J ⟨hi,hJ,hbd,hnb⟩;have hvc:=hvc.le hJ;have hfm:=hfm.le hJ;have hb:=hb.le hJ;have hv:=hv.le hJ;have hA:=hA.le hJ;have hVa:=hVa.le hJ;have Ro:=Ro.le hJ;have hHA:=hHA.le hJ;have hHi:=hHi.le hJ;have hbl:bd≤i:=by rw[hbd];exact Nat.le_trans c9H (by rw[List.length_take];omega)
     refine gC 9 (fun h69 p69=>?_) fun h69 p69=>?_
     ·have hlt:i<(a2m c (a0B l R vn)).length:=oM;have hpl:=b0P (a0B l R vn) (a2m c (a0B l R vn))[i];refine go 3 ?_;refine b5Q (Ix:=(fun bd2 nb2 J2=>J2)) (Lx:=(fun bd2 nb2 J2=>[(2,.slice A l.length c0),(3,.string vn),(4,.int .i64 (day)),(5,.pointer (some ⟨g5,0,none⟩)),(6,.pointer (some ⟨g6,0,none⟩)),(11,.bool true),(15,.pointer (some ⟨g15,0,none⟩)),(16,.slice OA (a0B l R vn).length oc),(17,.slice HA (a2m c (a0B l R vn)).length hc),(18,.int .i64 ((bd2:Nat):Int)),(19,.bool nb2),(20,.int .i64 ((i:Nat):Int))])) (Hx:=(fun bd2 nb2 J2=>[.blk g15 48 ((decR f c b l (a0B l R vn) vn day).cs kv (.slice HI (decR f c b l (a0B l R vn) vn day).hist.length hic) (.slice FI (decR f c b l (a0B l R vn) vn day).faults.length fic)),.blk g6 56 [v0,v1,v2,v3,v4,v5],.blk g5 29 [vc,ci f.op,ci f.n,sf]])) (p:=(fun bd2 nb2 J2=>ILe J J2∧bd2=b9t (ftsF f c b (a0B l R vn) vn day) ((a2m c (a0B l R vn)).take (i+1))∧nb2=((a2m c (a0B l R vn)).take (i+1)).any (nmT (ftsF f c b (a0B l R vn) vn day) (decR f c b l (a0B l R vn) vn day)))) ?_ ?_
      ·refine go 6 ?_;obtain⟨b76,o76,w76,e76,c76,r76⟩:=RdA.at_ hHA (i:=i) oM;obtain⟨q76,rfl,S76,d76,rfl,hS76,hd76,hm76⟩:=r76;refine go 3 ?_;refine a0m (b0Y _ _ (a0B l R vn) Ro oM (fun r hr=>hsl r (a6Y hr)) _ (a2m c (a0B l R vn))[i] ⟨_,_,rfl,hS76,hd76,hm76⟩) rfl rfl fun v78 I78 j78 q78=>?_
       try have hvc:=hvc.le j78
       try have hfm:=hfm.le j78
       try have hb:=hb.le j78
       try have hv:=hv.le j78
       try have hA:=hA.le j78
       try have hVa:=hVa.le j78
       try have Ro:=Ro.le j78
       try have hHA:=hHA.le j78
       try have hz78:=hz78.le j78
       try have hFt:=hFt.le j78
       try have hHi:=hHi.le j78
       try have hFa:=hFa.le j78
       obtain⟨z78,rfl,hz78⟩:=q78;refine go 15 ?_;refine a0m (d7n _ vc c hvc hsc f sf hfm v0 v1 v2 v3 v4 v5 b hb hok _ (a2d (a0B l R vn) (a2m c (a0B l R vn))[i]).1 hz78 oM (b0Q (fun r hr=>hsl r (a6Y hr))) vn day) rfl rfl fun v86 I86 j86 q86=>?_
       try have hvc:=hvc.le j86
       try have hfm:=hfm.le j86
       try have hb:=hb.le j86
       try have hv:=hv.le j86
       try have hA:=hA.le j86
       try have hVa:=hVa.le j86
       try have Ro:=Ro.le j86
       try have hHA:=hHA.le j86
       try have hz78:=hz78.le j86
       try have hFt:=hFt.le j86
       try have hHi:=hHi.le j86
       try have hFa:=hFa.le j86
       have hFa:RdS I86 _ ((ftsF f c b (a0B l R vn) vn day) (a2m c (a0B l R vn))[i]):=q86;obtain⟨FA,fc,rfl,_,_,_⟩:=id hFa;refine go 4 ?_;refine a6G (α:=Nat) (Ix:=(fun bd2=>I86)) (Lx:=(fun bd2=>[(2,.slice A l.length c0),(3,.string vn),(4,.int .i64 (day)),(5,.pointer (some ⟨g5,0,none⟩)),(6,.pointer (some ⟨g6,0,none⟩)),(11,.bool true),(15,.pointer (some ⟨g15,0,none⟩)),(16,.slice OA (a0B l R vn).length oc),(17,.slice HA (a2m c (a0B l R vn)).length hc),(18,.int .i64 ((bd2:Nat):Int)),(19,.bool nb),(20,.int .i64 ((i:Nat):Int)),(23,.slice FA ((ftsF f c b (a0B l R vn) vn day) (a2m c (a0B l R vn))[i]).length fc)])) (Hx:=(fun bd2=>[.blk g15 48 ((decR f c b l (a0B l R vn) vn day).cs kv (.slice HI (decR f c b l (a0B l R vn) vn day).hist.length hic) (.slice FI (decR f c b l (a0B l R vn) vn day).faults.length fic)),.blk g6 56 [v0,v1,v2,v3,v4,v5],.blk g5 29 [vc,ci f.op,ci f.n,sf]])) (p:=(fun bd2=>bd2=b9t (ftsF f c b (a0B l R vn) vn day) ((a2m c (a0B l R vn)).take (i+1)))) ?_ ?_
       ·refine gC 7 (fun h89 p89=>?_) fun h89 p89=>?_
        ·refine go 6 ?_;exact a2p (bd+1) (by rw[c5w hlt oM,hbd]) sb rfl rfl
        ·refine go 2 ?_;exact a2p bd (by rw[c9I hlt oM,hbd]) sb rfl rfl
       ·intro bd2 hbd2;refine go 2 ?_;refine dG 0 2 ?_;obtain⟨b94,o94,w94,e94,c94,r94⟩:=RdA.at_ hHA (i:=i) oM;obtain⟨q94,rfl,S94,d94,rfl,hS94,hd94,hm94⟩:=r94;refine dG 2 8 ?_;refine go 3 ?_;refine a1P (I':=I86) (L':=[(2,.slice A l.length c0),(3,.string vn),(4,.int .i64 (day)),(5,.pointer (some ⟨g5,0,none⟩)),(6,.pointer (some ⟨g6,0,none⟩)),(11,.bool true),(15,.pointer (some ⟨g15,0,none⟩)),(16,.slice OA (a0B l R vn).length oc),(17,.slice HA (a2m c (a0B l R vn)).length hc),(18,.int .i64 ((bd2:Nat):Int)),(19,.bool nb),(20,.int .i64 ((i:Nat):Int)),(23,.slice FA ((ftsF f c b (a0B l R vn) vn day) (a2m c (a0B l R vn))[i]).length fc),(24,.bool (decide ((a2m c (a0B l R vn))[i]=(decR f c b l (a0B l R vn) vn day).hist)))]) (H':=[.blk g15 48 ((decR f c b l (a0B l R vn) vn day).cs kv (.slice HI (decR f c b l (a0B l R vn) vn day).hist.length hic) (.slice FI (decR f c b l (a0B l R vn) vn day).faults.length fic)),.blk g6 56 [v0,v1,v2,v3,v4,v5],.blk g5 29 [vc,ci f.op,ci f.n,sf]]) ?_ ?_
        ·refine go 6 ?_
         refine a0H ((0:Nat)) (_) (fun k sm=>I86)
          (fun k sm=>[(2,.slice A l.length c0),(3,.string vn),(4,.int .i64 (day)),(5,.pointer (some ⟨g5,0,none⟩)),(6,.pointer (some ⟨g6,0,none⟩)),(11,.bool true),(15,.pointer (some ⟨g15,0,none⟩)),(16,.slice OA (a0B l R vn).length oc),(17,.slice HA (a2m c (a0B l R vn)).length hc),(18,.int .i64 ((bd2:Nat):Int)),(19,.bool nb),(20,.int .i64 ((i:Nat):Int)),(23,.slice FA ((ftsF f c b (a0B l R vn) vn day) (a2m c (a0B l R vn))[i]).length fc),(24,.bool sm),(25,.int .i64 ((k:Nat):Int))])
          (fun k sm=>[.blk g15 48 ((decR f c b l (a0B l R vn) vn day).cs kv (.slice HI (decR f c b l (a0B l R vn) vn day).hist.length hic) (.slice FI (decR f c b l (a0B l R vn) vn day).faults.length fic)),.blk g6 56 [v0,v1,v2,v3,v4,v5],.blk g5 29 [vc,ci f.op,ci f.n,sf]])
          (fun k sm=>k≤(decR f c b l (a0B l R vn) vn day).hist.length∧SmI (a2m c (a0B l R vn))[i] (decR f c b l (a0B l R vn) vn day).hist k sm)
          (fun k sm=>(decR f c b l (a0B l R vn) vn day).hist.length-k) ⟨Nat.zero_le _,SmI.start⟩ rfl sb rfl ?_
         intro k sm ⟨hk2,hsm⟩;refine gS 9 106 (fun h106 p106=>?_) fun h106 p106=>?_
         ·refine gC 4 (fun h108 p108=>?_) fun h108 p108=>?_
          ·have hk4:k<(decR f c b l (a0B l R vn) vn day).hist.length:=oM;have hst:SmI (a2m c (a0B l R vn))[i] (decR f c b l (a0B l R vn) vn day).hist k true:=by rw[←h108];exact hsm
           have hk3:k<((a2m c (a0B l R vn))[i]).length:=by rw[(hst.yes rfl).1];exact hk4
           refine go 5 ?_;refine dG 0 2 ?_;obtain⟨b113,o113,w113,e113,c113,r113⟩:=RdA.at_ hHA (i:=i) oM;obtain⟨q113,rfl,S113,d113,rfl,hS113,hd113,hm113⟩:=r113;refine dG 2 3 ?_;obtain⟨b116,o116,w116,e116,c116,r116⟩:=RdA.at_ hS113 (i:=k) hk3;obtain rfl:=r116;refine a0D 5 rfl rfl (by kernel_rfl) rfl (.refl _) rfl (a0l he rfl rfl e116 (k) oM hk3) ?_;refine dG 6 4 ?_;obtain⟨b121,o121,w121,e121,c121,r121⟩:=RdA.at_ hHi (i:=k) hk4;obtain rfl:=r121;refine a0D 10 rfl rfl (by kernel_rfl) rfl (.refl _) rfl (a0l he rfl rfl e121 (k) oM hk4) ?_;refine dG 11 3 ?_;refine go 9 ?_;exact a0r (k+1) (_) ⟨oM,hst.next hk3 hk4⟩ oM rfl sb rfl
          ·refine go 5 ?_;exact a0p ⟨rfl,rfl,rfl,rfl,rfl,rfl,rfl,rfl,rfl,rfl,rfl,rfl,rfl,(bB (hsm.done (fun hb=>by first|omega|(rw[hb]at h108;cases h108)))),trivial⟩ rfl rfl
         ·refine go 10 ?_;exact a0p ⟨rfl,rfl,rfl,rfl,rfl,rfl,rfl,rfl,rfl,rfl,rfl,rfl,rfl,(bB (hsm.done (fun hb=>by first|omega|(rw[hb]at h108;cases h108)))),trivial⟩ rfl rfl
        ·refine gS 3 125 (fun h125 p125=>?_) fun h125 p125=>?_
         ·refine go 17 ?_;exact a3G (bd2) (true) (I86) ⟨j78.trans j86,hbd2,by rw[a9j hlt,←hnb];simp only[nmT,a7k,h125,bS]⟩ sb rfl rfl
         ·refine gS 2 127 (fun h127 p127=>?_) fun h127 p127=>?_
          ·refine gS 5 132 (fun h132 p132=>?_) fun h132 p132=>?_
           ·refine go 4 ?_;refine a0o rfl rfl h132 (a0y (c3S _ _ _ hFa _ _ hVa.f) rfl rfl ?_);refine go 6 ?_;exact a3G (bd2) ((decide ((ftsF f c b (a0B l R vn) vn day) (a2m c (a0B l R vn))[i]=(decR f c b l (a0B l R vn) vn day).faults))) (I86) ⟨j78.trans j86,hbd2,by rw[a9j hlt,←hnb];simp only[nmT,a7k,h125,h127,h132,bS]⟩ sb rfl rfl
           ·refine go 10 ?_;exact a3G (bd2) (false) (I86) ⟨j78.trans j86,hbd2,by rw[a9j hlt,←hnb];simp only[nmT,a7k,h125,h127,h132,bS]⟩ sb rfl rfl
          ·refine go 15 ?_;exact a3G (bd2) (false) (I86) ⟨j78.trans j86,hbd2,by rw[a9j hlt,←hnb];simp only[nmT,a7k,h125,h127,bS]⟩ sb rfl rfl
      ·intro bd2 nb2 J2 ⟨hJ2,hbd2,hnb2⟩;refine go 6 ?_;exact a1u (i+1) (bd2) (nb2) (J2) ⟨oM,hJ.trans hJ2,hbd2,hnb2⟩ oM rfl sb rfl
     ·obtain rfl:i=(a2m c (a0B l R vn)).length:=oM;rw[List.take_length]at hbd hnb
      refine gC 13 (fun h141 p141=>?_) fun h141 p141=>?_
      ·refine go 6 ?_;refine a0z (a0o rfl rfl rfl (a0q rfl (OV.cast (u:=.bool true) (b5A rfl rfl) (congrArg Value.bool (decide_eq_true (hx1 oM)))) ?_));refine go 7 ?_;exact a8E rfl
      ·refine gC 9 (fun h149 p149=>?_) fun h149 p149=>?_
       ·refine go 6 ?_;refine a0z (a0o rfl rfl rfl (a0q rfl (OV.cast (u:=.bool true) (b5A rfl rfl) (congrArg Value.bool (decide_eq_true (hx2 oM oM)))) ?_));refine go 7 ?_;exact a8E rfl
       ·refine go 8 ?_;refine a0z (a0o rfl rfl rfl (a0q rfl (OV.cast (u:=.bool true) (b5A rfl rfl) (congrArg Value.bool (decide_eq_true ((hx3 oM oM).1)))) ?_));refine go 2 ?_;refine a0z (a0o rfl rfl rfl (a0q rfl (OV.cast (u:=.bool true) (b2y rfl) (congrArg Value.bool (hnb.trans (hx3 oM oM).2))) ?_));refine go 6 ?_;exact a8E rfl
end Go.Proofs.YtgmkjpafapgccaaGreat
namespace Go.Proofs.YtgmkjpafapgccaaGreat
open Go Go.Sx
set_option linter.all false
theorem T.cel_102:Tryz.prog.cellsOf 102=3:=by kernel_rfl
theorem T.cel_109:Tryz.prog.cellsOf 109=2:=by kernel_rfl
theorem T.cel_128:Tryz.prog.cellsOf 128=6:=by kernel_rfl
theorem T.cel_130:Tryz.prog.cellsOf 130=14:=by kernel_rfl
theorem T.cel_149:Tryz.prog.cellsOf 149=3:=by kernel_rfl
theorem T.cel_181:Tryz.prog.cellsOf 181=5:=by kernel_rfl
theorem T.cel_189:Tryz.prog.cellsOf 189=3:=by kernel_rfl
theorem T.cel_24:Tryz.prog.cellsOf 24=1:=by kernel_rfl
theorem T.cel_245:Tryz.prog.cellsOf 245=5:=by kernel_rfl
theorem T.cel_27:Tryz.prog.cellsOf 27=3:=by kernel_rfl
theorem T.cel_29:Tryz.prog.cellsOf 29=4:=by kernel_rfl
theorem T.cel_3:Tryz.prog.cellsOf 3=1:=by kernel_rfl
theorem T.cel_34:Tryz.prog.cellsOf 34=6:=by kernel_rfl
theorem T.cel_36:Tryz.prog.cellsOf 36=8:=by kernel_rfl
theorem T.cel_56:Tryz.prog.cellsOf 56=6:=by kernel_rfl
theorem T.cel_81:Tryz.prog.cellsOf 81=2:=by kernel_rfl
theorem T.cel_9:Tryz.prog.cellsOf 9=1:=by kernel_rfl
theorem T.cel_95:Tryz.prog.cellsOf 95=4:=by kernel_rfl
instance T.fds_102:Has (a0K Tryz.prog 102) [(9,0,1),(9,1,1),(3,2,1)]:=hk
instance T.fds_109:Has (a0K Tryz.prog 109) [(72,0,1),(4,1,1)]:=hk
instance T.fds_128:Has (a0K Tryz.prog 128) [(81,0,2),(81,2,2),(81,4,2)]:=hk
instance T.fds_130:Has (a0K Tryz.prog 130) [(3,0,1),(3,1,1),(9,2,1),(9,3,1),(9,4,1),(9,5,1),(9,6,1),(9,7,1),(128,8,6)]:=hk
instance T.fds_149:Has (a0K Tryz.prog 149) [(9,0,1),(4,1,1),(147,2,1)]:=hk
instance T.fds_181:Has (a0K Tryz.prog 181) [(9,0,1),(9,1,1),(9,2,1),(9,3,1),(3,4,1)]:=hk
instance T.fds_189:Has (a0K Tryz.prog 189) [(9,0,1),(88,1,1),(3,2,1)]:=hk
instance T.fds_24:Has (a0K Tryz.prog 24) [(22,0,1)]:=hk
instance T.fds_245:Has (a0K Tryz.prog 245) [(9,0,1),(9,1,1),(9,2,1),(3,3,1),(3,4,1)]:=hk
instance T.fds_27:Has (a0K Tryz.prog 27) [(3,0,1),(3,1,1),(25,2,1)]:=hk
instance T.fds_29:Has (a0K Tryz.prog 29) [(24,0,1),(27,1,3)]:=hk
instance T.fds_34:Has (a0K Tryz.prog 34) [(3,0,1),(9,1,1),(9,2,1),(3,3,1),(3,4,1),(32,5,1)]:=hk
instance T.fds_36:Has (a0K Tryz.prog 36) [(9,0,1),(9,1,1),(34,2,6)]:=hk
instance T.fds_56:Has (a0K Tryz.prog 56) [(50,0,1),(51,1,1),(52,2,1),(53,3,1),(50,4,1),(54,5,1)]:=hk
instance T.fds_81:Has (a0K Tryz.prog 81) [(3,0,1),(3,1,1)]:=hk
instance T.fds_95:Has (a0K Tryz.prog 95) [(9,0,1),(9,1,1),(45,2,1),(45,3,1)]:=hk
namespace lawTopExact
open Go.ChangeShapes Go.WideShapes Go.ChangeAt Go.RowKit Go.ChangeMaps Go.MapKept
theorem own:ownKnob Tryz.prog.godebug=none:=by kernel_rfl
set_option maxRecDepth 100000 in
theorem lifted (os:Os) (started:os.Started) (H:Type) (enc:TypeId×Value→H) :
  ReturnsInHanded {} Tryz.checked os 4 .any (Rows.topExactSpec.pre6 enc Tryz.prog Tryz.f4 Rows.topExactRow.domain false) (Rows.topExactSpec.post enc Tryz.prog Tryz.f4 false true false false):=by
 refine returnsInHanded_of_change (C:=Tryz.checked) own started (by kernel_rfl) Tryz.func4
  (ChangeSpec.witness6 (enc:=enc) (C:=Tryz.checked) false ⟨#[],#[.agg #[.slice none 0 0,.int .i64 0,.int .i64 0,.slice none 0 0],.agg #[.slice none 0 0,.slice none 0 0,.slice none 0 0,.slice none 0 0,.slice none 0 0,.slice none 0 0],.slice none 0 0,.string ⟨#[]⟩,.int .i64 0],[]⟩ 8 (by kernel_rfl) (by kernel_rfl) (by kernel_rfl) (by kernel_rfl)) ?_
 intro W base args ds gs before hval0 hW hcnd _;have hval:∀(j:Nat) t v,Tryz.f4.params[j]? = some t→args[j]? = some v→Value.okWide Tryz.prog W .any base t v:=hval0;have hW':=hW;obtain⟨p,q,hA0,hV,rfl,hfz,hnd⟩:=hW;have hA:DataW.TrodAll enc Tryz.prog W 0 (fun _=>true) true Tryz.f4.params.toList args.toList ds p:=hA0;rw[Tryz.params4]at hA hval
 obtain⟨v0,vs0,d0,ds0,p0,q0,hargs,rfl,rfl,h0,r0⟩:=trodAll_cons hA;obtain⟨v1,vs1,d1,ds1,p1,q1,rfl,rfl,rfl,h1,r1⟩:=trodAll_cons r0;obtain⟨v2,vs2,d2,ds2,p2,q2,rfl,rfl,rfl,h2,r2⟩:=trodAll_cons r1;obtain⟨v3,vs3,d3,ds3,p3,q3,rfl,rfl,rfl,h3,r3⟩:=trodAll_cons r2;obtain⟨v4,vs4,d4,ds4,p4,q4,rfl,rfl,rfl,h4,r4⟩:=trodAll_cons r3;obtain⟨rfl,rfl,rfl⟩:=trodAll_nil r4;obtain rfl:args=#[v0,v1,v2,v3,v4]:=by cases args;simp_all
 obtain⟨rfl,rfl⟩:=trodVars_none hV;clear hA0 hval0;obtain⟨cs0,rfl,hz0⟩:=b2h T.fds_29.eq (hval 0 29 v0 rfl rfl);obtain⟨fu0,hf0⟩:=h0;obtain⟨x0,⟨vc0,sf0,e0,R0,F0⟩,G0⟩:=(b6E T.fds_29.eq T.cel_29 (c0o T.fds_24.eq T.cel_24 (a1K T.und_22.eq T.cel_149 rfl (c0m T.fds_149.eq T.cel_149 (a1F T.und_9.eq) (b2j T.und_4.eq) (a1K T.und_147.eq T.cel_189 rfl (c0n T.fds_189.eq T.cel_189 (a1F T.und_9.eq) (a1K T.und_88.eq T.cel_9 rfl (a1F T.und_9.eq)) (a2o T.und_3.eq)))))) (c0l T.fds_27.eq T.cel_27 T.und_25.eq T.und_3.eq)) enc W 0 _ true fu0 _ _ hf0;obtain rfl:cs0=#[vc0,ci x0.dam.op,ci x0.dam.n,sf0]:=Array.toList_inj.1 e0;obtain⟨cs1,rfl,hz1⟩:=b2h T.fds_56.eq (hval 1 56 v1 rfl rfl);obtain⟨fu1,hf1⟩:=h1;obtain⟨x1,⟨va1,vb1,vc1,vd1,ve1,vf1,e1,R1⟩,G1⟩:=(c3l T.fds_56.eq T.cel_56 (a1K T.und_50.eq T.cel_36 rfl (c3s T.fds_36.eq T.cel_36 (a1F T.und_9.eq) (c0j T.fds_34.eq T.cel_34 T.und_32.eq T.und_3.eq (a1F T.und_9.eq)))) (a1K T.und_51.eq T.cel_181 rfl (c3t T.fds_181.eq T.cel_181 (a1F T.und_9.eq) (a2o T.und_3.eq))) (a1K T.und_52.eq T.cel_245 rfl (c3n T.fds_245.eq T.cel_245 (a1F T.und_9.eq) (a2o T.und_3.eq))) (a1K T.und_53.eq T.cel_102 rfl (c3m T.fds_102.eq T.cel_102 (a1F T.und_9.eq) (a2o T.und_3.eq))) (a1K T.und_54.eq T.cel_95 rfl (c3p T.fds_95.eq T.cel_95 (a1F T.und_9.eq) (a1K T.und_45.eq T.cel_3 rfl (a2o T.und_3.eq))))) enc W 0 _ true fu1 _ _ hf1;obtain rfl:cs1=#[va1,vb1,vc1,vd1,ve1,vf1]:=Array.toList_inj.1 e1;obtain⟨s2,n2,c2,rfl⟩:=okWide_slice T.und_30.eq (hval 2 30 v2 rfl rfl);obtain⟨fu2,hf2⟩:=h2;obtain⟨l2,⟨u2,e2,R2⟩,G2⟩:=(a1K T.und_30.eq T.cel_109 rfl (c3r T.fds_109.eq T.cel_109 (a1K T.und_72.eq T.cel_130 rfl (c3o T.fds_130.eq T.cel_130 (a2o T.und_3.eq) (a1F T.und_9.eq) (c3u T.fds_128.eq T.cel_128 (c3q T.fds_81.eq T.cel_81 (a2o T.und_3.eq))))) (b2j T.und_4.eq))) enc W 0 _ true fu2 _ _ hf2
 cases e2
 obtain⟨a3,rfl,rfl,rfl,w3⟩:=open_string T.und_9.eq (hval 3 9 v3 rfl rfl) h3;obtain⟨a4,rfl,rfl,rfl,w4⟩:=open_int T.und_3.eq (hval 4 3 v4 rfl rfl) h4;exact c2J (s:=Rows.topExactSpec) Tryz.call4 (c2I (Iw W) vc0 x0.kinds R0 G0.1 x0.dam sf0 F0 G0.2 va1 vb1 vc1 vd1 ve1 vf1 x1 R1 G1 _ l2 R2 G2 a3 w3 a4 w4) hW' (by kernel_rfl) (by kernel_rfl) rfl T.und_4.eq rfl rfl
end lawTopExact
end Go.Proofs.YtgmkjpafapgccaaGreat
