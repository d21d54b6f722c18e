
import Derived.Test.YtdapmfkbpnjkmaaGreatZBof
import Derived.ChangeMaps5
import Derived.OpenShut
import Derived.ProofKit
import Derived.Test.YtdapmfkbpnjkmaaGreatRows
namespace Go.Proofs.YtdapmfkbpnjkmaaGreat
open Go Go.Sx
set_option linter.all false
set_option maxRecDepth 20000
set_option maxHeartbeats 4000000
instance T.arr_81:Has (b7M Tryz.prog 81) (3,4,1):=⟨by kernel_rfl⟩
theorem T.cel_4:Tryz.prog.cellsOf 4=1:=by kernel_rfl
theorem T.eqg_46:Tryz.prog.eqGuardType Tryz.prog.depth 46=false:=by kernel_rfl
theorem T.eqg_81:Tryz.prog.eqGuardType Tryz.prog.depth 81=false:=by kernel_rfl
theorem T.inf_4:(Tryz.prog.info? 4).isSome=true:=by kernel_rfl
instance T.ty_81:Has (tyK Tryz.prog 81) (true,3):=⟨by kernel_rfl⟩
instance T.zero_81:Has (a1Z Tryz.prog 81) [.bool false,.bool false,.bool false]:=⟨by kernel_rfl⟩
theorem b8q (I:IMap) (vc:Value) (c:List Kind) (hvc:RdS I vc c) (hoc:∀x∈c,c8T x) (f:Fm) (sf:Value) (hf:FmRd I [ci f.op,ci f.n,sf] f) (hof:OkFm f) (v:Value) (l:List Rep) (hv:RdS I v l) (hok:∀x∈l,d1h x) (p:ByteArray) (wp:p.size≤maxLen) (day:Int) (wd:(Lit.int .i64 day).wf=true) :
    FnV Tryz.prog 12 #[.agg #[vc,ci f.op,ci f.n,sf],v,.string p,.int .i64 (day)] I (.bool true):=by
 have hv0:=hv
 obtain⟨A,c0,rfl,hA,hc,hm⟩:=hv0;refine enter Tryz.func12 Tryz.call12 rfl Tryz.ntmps12 rfl (fun w0=>?_);refine go 3 ?_;refine a0B _ rfl rfl rfl (fun g4=>?_);refine go 6 ?_;refine a0a (c5t _) rfl rfl ?_;refine go 9 ?_;refine a0a (b6B _ vc c hvc f sf hf _ l hv) rfl rfl ?_;refine go 2 ?_;refine sxb 30 rfl (fun h30 p30=>?_) (fun h30 p30=>?_)
 ·refine go 6 ?_;refine a3c rfl ?_;refine go 8 ?_;refine a0x rfl rfl ?_;exact a8c rfl
 ·refine go 6 ?_;refine cb rfl (fun h34 p34=>?_) (fun h34 p34=>?_)
  ·refine go 8 ?_;refine a0x rfl rfl ?_;exact a8c rfl
  ·obtain⟨hsc,hl12,hsl,_⟩:=b6l (show b3d c f l=true by simpa using h30)
   have hl:l.length≤1000000:=by omega
   obtain⟨R,hR⟩:=a9g l;refine go 9 ?_
   refine a0L (α:=Nat) 0 (fun i=>I)
    (fun i=>[(1,.slice A l.length c0),(2,.string p),(3,.int .i64 (day)),(4,.pointer (some ⟨g4,0,none⟩)),(9,.bool true),(10,.int .i64 ((i:Nat):Int))])
    (fun i=>[.blk g4 72 [vc,ci f.op,ci f.n,sf]])
    (fun i=>i≤l.length∧∀r∈l.take i,a0t r=true)
    (fun i=>l.length-i) ⟨Nat.zero_le _,fun r hr=>by simp at hr⟩ rfl sb rfl ?_
   intro i ⟨hi,hn⟩;refine go 9 ?_;refine cb rfl (fun h39 p39=>?_) (fun h39 p39=>?_)
   ·have hlt:i<l.length:=by omega
    refine go 8 ?_;obtain⟨b44,o44,w44,e44,c44,r44⟩:=RdA.at_ hA (i:=i) (by omega);obtain⟨q44,rfl,S44,d44,rfl,hS44,hd44,hm44⟩:=r44;refine o_v rfl (a0n he rfl rfl e44 (i) (by omega) (by omega)) ?_;refine o_v rfl (a0H he rfl c44 rfl) ?_;refine go 1 ?_;refine a0a (a8d _ l[i] S44 d44 ⟨_,_,rfl,hS44,hd44,hm44⟩ (hsl _ (List.getElem_mem hlt))) rfl rfl ?_;refine go 3 ?_;refine cb rfl (fun h47 p47=>?_) (fun h47 p47=>?_)
    ·refine go 12 ?_;refine a0x rfl rfl ?_;exact a8c rfl
    ·refine go 9 ?_;exact a0J (i+1) ⟨by omega,b4t hlt hn (by simpa using h47)⟩ (by omega) rfl sb rfl
   ·obtain rfl:i=l.length:=by omega
    rw[List.take_length]at hn
    have hcl2:=a5g (l:=l) (R:=R) (p:=p)
    obtain⟨R2,hR2⟩:=a9g (a1q l R p)
    have hsl2:∀r∈(a1q l R p),∀e∈r.options,SmE e:=fun r hr=>hsl r (a5G hr)
    obtain⟨hb1,hb2,hb3,hb4⟩:=c2H (f:=f) (c:=c) (l:=l) (own:=(a1q l R p)) (p:=p) (day:=day);refine go 12 ?_;refine a0F (a4T _ vc c hvc hsc f sf hf _ l hv (by omega) hsl R hR p day) rfl rfl (fun v54 I54 j54 q54=>?_)
    try have hvc:=hvc.le j54
    try have hf:=hf.le j54
    try have hv:=hv.le j54
    try have hA:=hA.le j54
    try have q62:=q62.le j54
    try have q63:=q63.le j54
    try have Ro:=Ro.le j54
    obtain rfl:=q54;refine go 4 ?_;refine a0h he rfl (fun g11=>?_);refine go 1 ?_;refine a0m _ he rfl rfl rfl rfl rfl rfl ?_;refine go 4 ?_;refine a7H (fun hE10 hf10=>?_);refine a1h T.mixed ?_;refine a0f 0 rfl rfl (by kernel_rfl) rfl (.refl _) rfl (a4d m1 he rfl rfl) ?_;refine a0f 1 rfl rfl (by kernel_rfl) rfl (.refl _) rfl (a0c rfl) ?_;refine a0f 2 rfl rfl (by kernel_rfl) rfl (.refl _) rfl (a0c rfl) ?_;refine a0f 3 rfl rfl (by kernel_rfl) rfl (.refl _) rfl (a0c rfl) ?_;refine a0f 6 rfl rfl (by kernel_rfl) rfl (.refl _) rfl (a0c rfl) ?_;refine a0f 7 rfl rfl (by kernel_rfl) rfl (.refl _) rfl (a0c rfl) ?_;refine a2A 4 12 (by kernel_rfl) rfl rfl ?_ ?_
    ·refine a0F (c1p _ _ l hv hl hsl R hR p) rfl rfl (fun v62 I62 j62 q62=>?_)
     try have hvc:=hvc.le j62
     try have hf:=hf.le j62
     try have hv:=hv.le j62
     try have hA:=hA.le j62
     try have q62:=q62.le j62
     try have q63:=q63.le j62
     try have Ro:=Ro.le j62
     refine a0r (fun _ m=>m.keepsI (.refl _) (j62) hE10 hf10) ?_;refine a2A 5 12 (by kernel_rfl) rfl rfl ?_ ?_
     ·refine a0F (a6Q _ _ l hv _ (ofN l R p) q62 (fun i hi=>b0C hi) (by rw[←a1W (l:=l) fun i hi=>b0C hi];exact Nat.le_trans a5g hl)) rfl rfl (fun v63 I63 j63 q63=>?_)
      try have hvc:=hvc.le j63
      try have hf:=hf.le j63
      try have hv:=hv.le j63
      try have hA:=hA.le j63
      try have q62:=q62.le j63
      try have q63:=q63.le j63
      try have Ro:=Ro.le j63
      have Ro:RdS _ _ (a1q l R p):=q63
      refine a0r (fun _ m=>m.keepsI (.refl _) ((j62).trans j63) hE10 hf10) ?_;refine a2A 8 12 (by kernel_rfl) rfl rfl ?_ ?_
      ·refine a0F (a4T _ vc c hvc hsc f sf hf _ (a1q l R p) Ro (by omega) hsl2 R2 hR2 p day) rfl rfl (fun v66 I66 j66 q66=>?_)
       try have hvc:=hvc.le j66
       try have hf:=hf.le j66
       try have hv:=hv.le j66
       try have hA:=hA.le j66
       try have q62:=q62.le j66
       try have q63:=q63.le j66
       try have Ro:=Ro.le j66
       obtain rfl:=q66;rw[b2p hR hR2,a5B hn];refine a0r (fun _ m=>m.keepsI (.refl _) (((j62).trans j63).trans j66) hE10 hf10) ?_;refine d_t 9 rfl rfl (by kernel_rfl) rfl (fun _ m=>m.keepsI (.refl _) (((j62).trans j63).trans j66) hE10 hf10) (y_v rfl (a0c rfl)) ?_;refine d_t 10 rfl rfl (by kernel_rfl) rfl (fun _ m=>m.keepsI (.refl _) (((j62).trans j63).trans j66) hE10 hf10) (y_v rfl (a2g rfl rfl)) ?_;refine d_t 11 rfl rfl (by kernel_rfl) rfl (fun _ m=>m.keepsI (.refl _) (((j62).trans j63).trans j66) hE10 hf10) (y_v rfl (a2g rfl rfl)) ?_;refine a0i 12 (by kernel_rfl) rfl ?_;refine a0h he rfl (fun g13=>?_);refine a0r (fun _ m=>m.keepsI (.cons _ (.refl _)) (((j62).trans j63).trans j66) hE10 hf10) ?_;refine a0i 13 (by kernel_rfl) rfl ?_;refine a0m _ he rfl rfl rfl rfl rfl rfl ?_;refine a0r (fun _ m=>m.keepsI (.cons _ (.refl _)) (((j62).trans j63).trans j66) hE10 hf10) ?_;refine d_t 14 rfl rfl (by kernel_rfl) rfl (fun _ m=>m.keepsI (.cons _ (.refl _)) (((j62).trans j63).trans j66) hE10 hf10) (y_v rfl (a0I rfl)) ?_;refine a0w (by kernel_rfl) ?_;refine go 8 ?_;refine a0F (a1c _ vc c hvc hsc f sf hf _ l hv (by omega) hsl R hR p sKm day) rfl rfl (fun v74 I74 j74 q74=>?_)
       try have hvc:=hvc.le j74
       try have hf:=hf.le j74
       try have hv:=hv.le j74
       try have hA:=hA.le j74
       try have q62:=q62.le j74
       try have q63:=q63.le j74
       try have Ro:=Ro.le j74
       obtain rfl:=q74;rw[a2e.1];refine go 4 ?_;refine a0h he rfl (fun g15=>?_);refine go 1 ?_;refine a0m _ he rfl rfl rfl rfl rfl rfl ?_;refine go 10 ?_;refine a0F (a1c _ vc c hvc hsc f sf hf _ l hv (by omega) hsl R hR p a2j day) rfl rfl (fun v82 I82 j82 q82=>?_)
       try have hvc:=hvc.le j82
       try have hf:=hf.le j82
       try have hv:=hv.le j82
       try have hA:=hA.le j82
       try have q62:=q62.le j82
       try have q63:=q63.le j82
       try have Ro:=Ro.le j82
       obtain rfl:=q82;rw[a2e.2.1];refine go 4 ?_;refine a0h he rfl (fun g17=>?_);refine go 1 ?_;refine a0m _ he rfl rfl rfl rfl rfl rfl ?_;refine go 10 ?_;refine a0F (a1c _ vc c hvc hsc f sf hf _ l hv (by omega) hsl R hR p a2r day) rfl rfl (fun v90 I90 j90 q90=>?_)
       try have hvc:=hvc.le j90
       try have hf:=hf.le j90
       try have hv:=hv.le j90
       try have hA:=hA.le j90
       try have q62:=q62.le j90
       try have q63:=q63.le j90
       try have Ro:=Ro.le j90
       obtain rfl:=q90;rw[a2e.2.2];refine go 4 ?_;refine a0h he rfl (fun g19=>?_);refine go 1 ?_;refine a0m _ he rfl rfl rfl rfl rfl rfl ?_;refine go 10 ?_;refine a0F (a1c _ vc c hvc hsc f sf hf _ l hv (by omega) hsl R hR p a2u day) rfl rfl (fun v98 I98 j98 q98=>?_)
       try have hvc:=hvc.le j98
       try have hf:=hf.le j98
       try have hv:=hv.le j98
       try have hA:=hA.le j98
       try have q62:=q62.le j98
       try have q63:=q63.le j98
       try have Ro:=Ro.le j98
       obtain rfl:=q98;rw[a2Q.1];refine go 4 ?_;refine a0h he rfl (fun g21=>?_);refine go 1 ?_;refine a0m _ he rfl rfl rfl rfl rfl rfl ?_;refine go 10 ?_;refine a0F (a1c _ vc c hvc hsc f sf hf _ l hv (by omega) hsl R hR p a6y day) rfl rfl (fun v106 I106 j106 q106=>?_)
       try have hvc:=hvc.le j106
       try have hf:=hf.le j106
       try have hv:=hv.le j106
       try have hA:=hA.le j106
       try have q62:=q62.le j106
       try have q63:=q63.le j106
       try have Ro:=Ro.le j106
       obtain rfl:=q106;rw[a2Q.2];refine go 4 ?_;refine a0h he rfl (fun g23=>?_);refine go 1 ?_;refine a0m _ he rfl rfl rfl rfl rfl rfl ?_;refine go 8 ?_;refine o_v rfl (OV.cast (u:=.bool false) (b2J T.eqg_46 (a4p (bndLife f c l (a1q l R p) p day).1 (bndLife f c l (a1q l R p) p day).1) rfl rfl) (congrArg Value.bool (by simp))) ?_;refine go 3 ?_;refine a0v (a0y rfl rfl rfl (a0l rfl (OV.cast (u:=.bool false) (a4e rfl rfl) (congrArg Value.bool (by simp))) ?_));refine go 4 ?_;refine a0v (a0y rfl rfl rfl (a0l rfl (OV.cast (u:=.bool false) (a4e rfl rfl) (congrArg Value.bool (by rw[a1x (g:=kmO)];simp))) ?_));refine go 4 ?_;refine a0v (a0y rfl rfl rfl (a0l rfl (OV.cast (u:=.bool false) (a4e rfl rfl) (congrArg Value.bool (by rw[a1x (g:=cyO)];simp))) ?_));refine go 4 ?_;refine a0v (a0y rfl rfl rfl (a0l rfl (OV.cast (u:=.bool false) (a4e rfl rfl) (congrArg Value.bool (by rw[a1x (g:=daO)];simp))) ?_));refine go 4 ?_;refine a0v (a0y rfl rfl rfl (a0l rfl (OV.cast (u:=.bool false) (a4e rfl rfl) (congrArg Value.bool (by rw[a1x (g:=(a4x a2u day))];simp))) ?_));refine go 4 ?_;refine a0v (a0y rfl rfl rfl (a0l rfl (OV.cast (u:=.bool false) (a4e rfl rfl) (congrArg Value.bool (by rw[a1x (g:=(a4x a6y day))];simp))) ?_));refine go 3 ?_;refine a0P rfl ?_;refine go 11 ?_;refine a0y rfl rfl rfl (a0l rfl (a0A (pl:=[(0,2),(2,2),(4,2)]) he he rfl rfl) ?_);refine a0v (a0y rfl rfl rfl (a0l rfl (OV.cast (u:=.bool true) (a3Q T.eqg_46 (a4p (bndLife f c l (a1q l R p) p day).1 (bndLife f c l (a1q l R p) p day).1) rfl rfl) (congrArg Value.bool (decide_eq_true (rfl)))) ?_));refine go 4 ?_;refine a0v (a0y rfl rfl rfl (a0l rfl (OV.cast (u:=.bool true) (b4n rfl rfl) (congrArg Value.bool (decide_eq_true (hb1)))) ?_));refine go 6 ?_;refine a0v (a0y rfl rfl rfl (a0l rfl (OV.cast (u:=.bool true) (a6T rfl rfl) (congrArg Value.bool (decide_eq_true (hb2)))) ?_));refine go 6 ?_;refine a0v (a0y rfl rfl rfl (a0l rfl (OV.cast (u:=.bool true) (a6T rfl rfl) (congrArg Value.bool (decide_eq_true (hb3)))) ?_));refine go 6 ?_;refine a0v (a0y rfl rfl rfl (a0l rfl (OV.cast (u:=.bool true) (a6T rfl rfl) (congrArg Value.bool (decide_eq_true (hb4)))) ?_));refine go 5 ?_;refine a0x rfl rfl ?_;exact a8c rfl
      ·refine a0h he rfl (fun g13=>?_);refine a0r (fun _ m=>m.keepsI (.cons _ (.refl _)) ((j62).trans j63) hE10 hf10) ?_;refine a0i 8 (by kernel_rfl) rfl ?_;refine a0F (a4T _ vc c hvc hsc f sf hf _ (a1q l R p) Ro (by omega) hsl2 R2 hR2 p day) rfl rfl (fun v66 I66 j66 q66=>?_)
       try have hvc:=hvc.le j66
       try have hf:=hf.le j66
       try have hv:=hv.le j66
       try have hA:=hA.le j66
       try have q62:=q62.le j66
       try have q63:=q63.le j66
       try have Ro:=Ro.le j66
       obtain rfl:=q66;rw[b2p hR hR2,a5B hn];refine a0r (fun _ m=>m.keepsI (.cons _ (.refl _)) (((j62).trans j63).trans j66) hE10 hf10) ?_;refine d_t 9 rfl rfl (by kernel_rfl) rfl (fun _ m=>m.keepsI (.cons _ (.refl _)) (((j62).trans j63).trans j66) hE10 hf10) (y_v rfl (a0c rfl)) ?_;refine d_t 10 rfl rfl (by kernel_rfl) rfl (fun _ m=>m.keepsI (.cons _ (.refl _)) (((j62).trans j63).trans j66) hE10 hf10) (y_v rfl (a2g rfl rfl)) ?_;refine d_t 11 rfl rfl (by kernel_rfl) rfl (fun _ m=>m.keepsI (.cons _ (.refl _)) (((j62).trans j63).trans j66) hE10 hf10) (y_v rfl (a2g rfl rfl)) ?_;refine a0i 13 (by kernel_rfl) rfl ?_;refine a0m _ he rfl rfl rfl rfl rfl rfl ?_;refine a0r (fun _ m=>m.keepsI (.cons _ (.refl _)) (((j62).trans j63).trans j66) hE10 hf10) ?_;refine d_t 14 rfl rfl (by kernel_rfl) rfl (fun _ m=>m.keepsI (.cons _ (.refl _)) (((j62).trans j63).trans j66) hE10 hf10) (y_v rfl (a0I rfl)) ?_;refine a0w (by kernel_rfl) ?_;refine go 8 ?_;refine a0F (a1c _ vc c hvc hsc f sf hf _ l hv (by omega) hsl R hR p sKm day) rfl rfl (fun v74 I74 j74 q74=>?_)
       try have hvc:=hvc.le j74
       try have hf:=hf.le j74
       try have hv:=hv.le j74
       try have hA:=hA.le j74
       try have q62:=q62.le j74
       try have q63:=q63.le j74
       try have Ro:=Ro.le j74
       obtain rfl:=q74;rw[a2e.1];refine go 4 ?_;refine a0h he rfl (fun g15=>?_);refine go 1 ?_;refine a0m _ he rfl rfl rfl rfl rfl rfl ?_;refine go 10 ?_;refine a0F (a1c _ vc c hvc hsc f sf hf _ l hv (by omega) hsl R hR p a2j day) rfl rfl (fun v82 I82 j82 q82=>?_)
       try have hvc:=hvc.le j82
       try have hf:=hf.le j82
       try have hv:=hv.le j82
       try have hA:=hA.le j82
       try have q62:=q62.le j82
       try have q63:=q63.le j82
       try have Ro:=Ro.le j82
       obtain rfl:=q82;rw[a2e.2.1];refine go 4 ?_;refine a0h he rfl (fun g17=>?_);refine go 1 ?_;refine a0m _ he rfl rfl rfl rfl rfl rfl ?_;refine go 10 ?_;refine a0F (a1c _ vc c hvc hsc f sf hf _ l hv (by omega) hsl R hR p a2r day) rfl rfl (fun v90 I90 j90 q90=>?_)
       try have hvc:=hvc.le j90
       try have hf:=hf.le j90
       try have hv:=hv.le j90
       try have hA:=hA.le j90
       try have q62:=q62.le j90
       try have q63:=q63.le j90
       try have Ro:=Ro.le j90
       obtain rfl:=q90;rw[a2e.2.2];refine go 4 ?_;refine a0h he rfl (fun g19=>?_);refine go 1 ?_;refine a0m _ he rfl rfl rfl rfl rfl rfl ?_;refine go 10 ?_;refine a0F (a1c _ vc c hvc hsc f sf hf _ l hv (by omega) hsl R hR p a2u day) rfl rfl (fun v98 I98 j98 q98=>?_)
       try have hvc:=hvc.le j98
       try have hf:=hf.le j98
       try have hv:=hv.le j98
       try have hA:=hA.le j98
       try have q62:=q62.le j98
       try have q63:=q63.le j98
       try have Ro:=Ro.le j98
       obtain rfl:=q98;rw[a2Q.1];refine go 4 ?_;refine a0h he rfl (fun g21=>?_);refine go 1 ?_;refine a0m _ he rfl rfl rfl rfl rfl rfl ?_;refine go 10 ?_;refine a0F (a1c _ vc c hvc hsc f sf hf _ l hv (by omega) hsl R hR p a6y day) rfl rfl (fun v106 I106 j106 q106=>?_)
       try have hvc:=hvc.le j106
       try have hf:=hf.le j106
       try have hv:=hv.le j106
       try have hA:=hA.le j106
       try have q62:=q62.le j106
       try have q63:=q63.le j106
       try have Ro:=Ro.le j106
       obtain rfl:=q106;rw[a2Q.2];refine go 4 ?_;refine a0h he rfl (fun g23=>?_);refine go 1 ?_;refine a0m _ he rfl rfl rfl rfl rfl rfl ?_;refine go 8 ?_;refine o_v rfl (OV.cast (u:=.bool false) (b2J T.eqg_46 (a4p (bndLife f c l (a1q l R p) p day).1 (bndLife f c l (a1q l R p) p day).1) rfl rfl) (congrArg Value.bool (by simp))) ?_;refine go 3 ?_;refine a0v (a0y rfl rfl rfl (a0l rfl (OV.cast (u:=.bool false) (a4e rfl rfl) (congrArg Value.bool (by simp))) ?_));refine go 4 ?_;refine a0v (a0y rfl rfl rfl (a0l rfl (OV.cast (u:=.bool false) (a4e rfl rfl) (congrArg Value.bool (by rw[a1x (g:=kmO)];simp))) ?_));refine go 4 ?_;refine a0v (a0y rfl rfl rfl (a0l rfl (OV.cast (u:=.bool false) (a4e rfl rfl) (congrArg Value.bool (by rw[a1x (g:=cyO)];simp))) ?_));refine go 4 ?_;refine a0v (a0y rfl rfl rfl (a0l rfl (OV.cast (u:=.bool false) (a4e rfl rfl) (congrArg Value.bool (by rw[a1x (g:=daO)];simp))) ?_));refine go 4 ?_;refine a0v (a0y rfl rfl rfl (a0l rfl (OV.cast (u:=.bool false) (a4e rfl rfl) (congrArg Value.bool (by rw[a1x (g:=(a4x a2u day))];simp))) ?_));refine go 4 ?_;refine a0v (a0y rfl rfl rfl (a0l rfl (OV.cast (u:=.bool false) (a4e rfl rfl) (congrArg Value.bool (by rw[a1x (g:=(a4x a6y day))];simp))) ?_));refine go 3 ?_;refine a0P rfl ?_;refine go 11 ?_;refine a0y rfl rfl rfl (a0l rfl (a0A (pl:=[(0,2),(2,2),(4,2)]) he he rfl rfl) ?_);refine a0v (a0y rfl rfl rfl (a0l rfl (OV.cast (u:=.bool true) (a3Q T.eqg_46 (a4p (bndLife f c l (a1q l R p) p day).1 (bndLife f c l (a1q l R p) p day).1) rfl rfl) (congrArg Value.bool (decide_eq_true (rfl)))) ?_));refine go 4 ?_;refine a0v (a0y rfl rfl rfl (a0l rfl (OV.cast (u:=.bool true) (b4n rfl rfl) (congrArg Value.bool (decide_eq_true (hb1)))) ?_));refine go 6 ?_;refine a0v (a0y rfl rfl rfl (a0l rfl (OV.cast (u:=.bool true) (a6T rfl rfl) (congrArg Value.bool (decide_eq_true (hb2)))) ?_));refine go 6 ?_;refine a0v (a0y rfl rfl rfl (a0l rfl (OV.cast (u:=.bool true) (a6T rfl rfl) (congrArg Value.bool (decide_eq_true (hb3)))) ?_));refine go 6 ?_;refine a0v (a0y rfl rfl rfl (a0l rfl (OV.cast (u:=.bool true) (a6T rfl rfl) (congrArg Value.bool (decide_eq_true (hb4)))) ?_));refine go 5 ?_;refine a0x rfl rfl ?_;exact a8c rfl
     ·refine a0h he rfl (fun g13=>?_);refine a0r (fun _ m=>m.keepsI (.cons _ (.refl _)) (j62) hE10 hf10) ?_;refine a0i 5 (by kernel_rfl) rfl ?_;refine a0F (a6Q _ _ l hv _ (ofN l R p) q62 (fun i hi=>b0C hi) (by rw[←a1W (l:=l) fun i hi=>b0C hi];exact Nat.le_trans a5g hl)) rfl rfl (fun v63 I63 j63 q63=>?_)
      try have hvc:=hvc.le j63
      try have hf:=hf.le j63
      try have hv:=hv.le j63
      try have hA:=hA.le j63
      try have q62:=q62.le j63
      try have q63:=q63.le j63
      try have Ro:=Ro.le j63
      have Ro:RdS _ _ (a1q l R p):=q63
      refine a0r (fun _ m=>m.keepsI (.cons _ (.refl _)) ((j62).trans j63) hE10 hf10) ?_;refine a0i 8 (by kernel_rfl) rfl ?_;refine a0F (a4T _ vc c hvc hsc f sf hf _ (a1q l R p) Ro (by omega) hsl2 R2 hR2 p day) rfl rfl (fun v66 I66 j66 q66=>?_)
      try have hvc:=hvc.le j66
      try have hf:=hf.le j66
      try have hv:=hv.le j66
      try have hA:=hA.le j66
      try have q62:=q62.le j66
      try have q63:=q63.le j66
      try have Ro:=Ro.le j66
      obtain rfl:=q66;rw[b2p hR hR2,a5B hn];refine a0r (fun _ m=>m.keepsI (.cons _ (.refl _)) (((j62).trans j63).trans j66) hE10 hf10) ?_;refine d_t 9 rfl rfl (by kernel_rfl) rfl (fun _ m=>m.keepsI (.cons _ (.refl _)) (((j62).trans j63).trans j66) hE10 hf10) (y_v rfl (a0c rfl)) ?_;refine d_t 10 rfl rfl (by kernel_rfl) rfl (fun _ m=>m.keepsI (.cons _ (.refl _)) (((j62).trans j63).trans j66) hE10 hf10) (y_v rfl (a2g rfl rfl)) ?_;refine d_t 11 rfl rfl (by kernel_rfl) rfl (fun _ m=>m.keepsI (.cons _ (.refl _)) (((j62).trans j63).trans j66) hE10 hf10) (y_v rfl (a2g rfl rfl)) ?_;refine a0i 13 (by kernel_rfl) rfl ?_;refine a0m _ he rfl rfl rfl rfl rfl rfl ?_;refine a0r (fun _ m=>m.keepsI (.cons _ (.refl _)) (((j62).trans j63).trans j66) hE10 hf10) ?_;refine d_t 14 rfl rfl (by kernel_rfl) rfl (fun _ m=>m.keepsI (.cons _ (.refl _)) (((j62).trans j63).trans j66) hE10 hf10) (y_v rfl (a0I rfl)) ?_;refine a0w (by kernel_rfl) ?_;refine go 8 ?_;refine a0F (a1c _ vc c hvc hsc f sf hf _ l hv (by omega) hsl R hR p sKm day) rfl rfl (fun v74 I74 j74 q74=>?_)
      try have hvc:=hvc.le j74
      try have hf:=hf.le j74
      try have hv:=hv.le j74
      try have hA:=hA.le j74
      try have q62:=q62.le j74
      try have q63:=q63.le j74
      try have Ro:=Ro.le j74
      obtain rfl:=q74;rw[a2e.1];refine go 4 ?_;refine a0h he rfl (fun g15=>?_);refine go 1 ?_;refine a0m _ he rfl rfl rfl rfl rfl rfl ?_;refine go 10 ?_;refine a0F (a1c _ vc c hvc hsc f sf hf _ l hv (by omega) hsl R hR p a2j day) rfl rfl (fun v82 I82 j82 q82=>?_)
      try have hvc:=hvc.le j82
      try have hf:=hf.le j82
      try have hv:=hv.le j82
      try have hA:=hA.le j82
      try have q62:=q62.le j82
      try have q63:=q63.le j82
      try have Ro:=Ro.le j82
      obtain rfl:=q82;rw[a2e.2.1];refine go 4 ?_;refine a0h he rfl (fun g17=>?_);refine go 1 ?_;refine a0m _ he rfl rfl rfl rfl rfl rfl ?_;refine go 10 ?_;refine a0F (a1c _ vc c hvc hsc f sf hf _ l hv (by omega) hsl R hR p a2r day) rfl rfl (fun v90 I90 j90 q90=>?_)
      try have hvc:=hvc.le j90
      try have hf:=hf.le j90
      try have hv:=hv.le j90
      try have hA:=hA.le j90
      try have q62:=q62.le j90
      try have q63:=q63.le j90
      try have Ro:=Ro.le j90
      obtain rfl:=q90;rw[a2e.2.2];refine go 4 ?_;refine a0h he rfl (fun g19=>?_);refine go 1 ?_;refine a0m _ he rfl rfl rfl rfl rfl rfl ?_;refine go 10 ?_;refine a0F (a1c _ vc c hvc hsc f sf hf _ l hv (by omega) hsl R hR p a2u day) rfl rfl (fun v98 I98 j98 q98=>?_)
      try have hvc:=hvc.le j98
      try have hf:=hf.le j98
      try have hv:=hv.le j98
      try have hA:=hA.le j98
      try have q62:=q62.le j98
      try have q63:=q63.le j98
      try have Ro:=Ro.le j98
      obtain rfl:=q98;rw[a2Q.1];refine go 4 ?_;refine a0h he rfl (fun g21=>?_);refine go 1 ?_;refine a0m _ he rfl rfl rfl rfl rfl rfl ?_;refine go 10 ?_;refine a0F (a1c _ vc c hvc hsc f sf hf _ l hv (by omega) hsl R hR p a6y day) rfl rfl (fun v106 I106 j106 q106=>?_)
      try have hvc:=hvc.le j106
      try have hf:=hf.le j106
      try have hv:=hv.le j106
      try have hA:=hA.le j106
      try have q62:=q62.le j106
      try have q63:=q63.le j106
      try have Ro:=Ro.le j106
      obtain rfl:=q106;rw[a2Q.2];refine go 4 ?_;refine a0h he rfl (fun g23=>?_);refine go 1 ?_;refine a0m _ he rfl rfl rfl rfl rfl rfl ?_;refine go 8 ?_;refine o_v rfl (OV.cast (u:=.bool false) (b2J T.eqg_46 (a4p (bndLife f c l (a1q l R p) p day).1 (bndLife f c l (a1q l R p) p day).1) rfl rfl) (congrArg Value.bool (by simp))) ?_;refine go 3 ?_;refine a0v (a0y rfl rfl rfl (a0l rfl (OV.cast (u:=.bool false) (a4e rfl rfl) (congrArg Value.bool (by simp))) ?_));refine go 4 ?_;refine a0v (a0y rfl rfl rfl (a0l rfl (OV.cast (u:=.bool false) (a4e rfl rfl) (congrArg Value.bool (by rw[a1x (g:=kmO)];simp))) ?_));refine go 4 ?_;refine a0v (a0y rfl rfl rfl (a0l rfl (OV.cast (u:=.bool false) (a4e rfl rfl) (congrArg Value.bool (by rw[a1x (g:=cyO)];simp))) ?_));refine go 4 ?_;refine a0v (a0y rfl rfl rfl (a0l rfl (OV.cast (u:=.bool false) (a4e rfl rfl) (congrArg Value.bool (by rw[a1x (g:=daO)];simp))) ?_));refine go 4 ?_;refine a0v (a0y rfl rfl rfl (a0l rfl (OV.cast (u:=.bool false) (a4e rfl rfl) (congrArg Value.bool (by rw[a1x (g:=(a4x a2u day))];simp))) ?_));refine go 4 ?_;refine a0v (a0y rfl rfl rfl (a0l rfl (OV.cast (u:=.bool false) (a4e rfl rfl) (congrArg Value.bool (by rw[a1x (g:=(a4x a6y day))];simp))) ?_));refine go 3 ?_;refine a0P rfl ?_;refine go 11 ?_;refine a0y rfl rfl rfl (a0l rfl (a0A (pl:=[(0,2),(2,2),(4,2)]) he he rfl rfl) ?_);refine a0v (a0y rfl rfl rfl (a0l rfl (OV.cast (u:=.bool true) (a3Q T.eqg_46 (a4p (bndLife f c l (a1q l R p) p day).1 (bndLife f c l (a1q l R p) p day).1) rfl rfl) (congrArg Value.bool (decide_eq_true (rfl)))) ?_));refine go 4 ?_;refine a0v (a0y rfl rfl rfl (a0l rfl (OV.cast (u:=.bool true) (b4n rfl rfl) (congrArg Value.bool (decide_eq_true (hb1)))) ?_));refine go 6 ?_;refine a0v (a0y rfl rfl rfl (a0l rfl (OV.cast (u:=.bool true) (a6T rfl rfl) (congrArg Value.bool (decide_eq_true (hb2)))) ?_));refine go 6 ?_;refine a0v (a0y rfl rfl rfl (a0l rfl (OV.cast (u:=.bool true) (a6T rfl rfl) (congrArg Value.bool (decide_eq_true (hb3)))) ?_));refine go 6 ?_;refine a0v (a0y rfl rfl rfl (a0l rfl (OV.cast (u:=.bool true) (a6T rfl rfl) (congrArg Value.bool (decide_eq_true (hb4)))) ?_));refine go 5 ?_;refine a0x rfl rfl ?_;exact a8c rfl
    ·refine a0h he rfl (fun g13=>?_);refine a0r (fun _ m=>m.keeps (.cons _ (.refl _))) ?_;refine a0i 4 (by kernel_rfl) rfl ?_;refine a0F (c1p _ _ l hv hl hsl R hR p) rfl rfl (fun v62 I62 j62 q62=>?_)
     try have hvc:=hvc.le j62
     try have hf:=hf.le j62
     try have hv:=hv.le j62
     try have hA:=hA.le j62
     try have q62:=q62.le j62
     try have q63:=q63.le j62
     try have Ro:=Ro.le j62
     refine a0r (fun _ m=>m.keepsI (.cons _ (.refl _)) (j62) hE10 hf10) ?_;refine a0i 5 (by kernel_rfl) rfl ?_;refine a0F (a6Q _ _ l hv _ (ofN l R p) q62 (fun i hi=>b0C hi) (by rw[←a1W (l:=l) fun i hi=>b0C hi];exact Nat.le_trans a5g hl)) rfl rfl (fun v63 I63 j63 q63=>?_)
     try have hvc:=hvc.le j63
     try have hf:=hf.le j63
     try have hv:=hv.le j63
     try have hA:=hA.le j63
     try have q62:=q62.le j63
     try have q63:=q63.le j63
     try have Ro:=Ro.le j63
     have Ro:RdS _ _ (a1q l R p):=q63
     refine a0r (fun _ m=>m.keepsI (.cons _ (.refl _)) ((j62).trans j63) hE10 hf10) ?_;refine a0i 8 (by kernel_rfl) rfl ?_;refine a0F (a4T _ vc c hvc hsc f sf hf _ (a1q l R p) Ro (by omega) hsl2 R2 hR2 p day) rfl rfl (fun v66 I66 j66 q66=>?_)
     try have hvc:=hvc.le j66
     try have hf:=hf.le j66
     try have hv:=hv.le j66
     try have hA:=hA.le j66
     try have q62:=q62.le j66
     try have q63:=q63.le j66
     try have Ro:=Ro.le j66
     obtain rfl:=q66;rw[b2p hR hR2,a5B hn];refine a0r (fun _ m=>m.keepsI (.cons _ (.refl _)) (((j62).trans j63).trans j66) hE10 hf10) ?_;refine d_t 9 rfl rfl (by kernel_rfl) rfl (fun _ m=>m.keepsI (.cons _ (.refl _)) (((j62).trans j63).trans j66) hE10 hf10) (y_v rfl (a0c rfl)) ?_;refine d_t 10 rfl rfl (by kernel_rfl) rfl (fun _ m=>m.keepsI (.cons _ (.refl _)) (((j62).trans j63).trans j66) hE10 hf10) (y_v rfl (a2g rfl rfl)) ?_;refine d_t 11 rfl rfl (by kernel_rfl) rfl (fun _ m=>m.keepsI (.cons _ (.refl _)) (((j62).trans j63).trans j66) hE10 hf10) (y_v rfl (a2g rfl rfl)) ?_;refine a0i 13 (by kernel_rfl) rfl ?_;refine a0m _ he rfl rfl rfl rfl rfl rfl ?_;refine a0r (fun _ m=>m.keepsI (.cons _ (.refl _)) (((j62).trans j63).trans j66) hE10 hf10) ?_;refine d_t 14 rfl rfl (by kernel_rfl) rfl (fun _ m=>m.keepsI (.cons _ (.refl _)) (((j62).trans j63).trans j66) hE10 hf10) (y_v rfl (a0I rfl)) ?_;refine a0w (by kernel_rfl) ?_;refine go 8 ?_;refine a0F (a1c _ vc c hvc hsc f sf hf _ l hv (by omega) hsl R hR p sKm day) rfl rfl (fun v74 I74 j74 q74=>?_)
     try have hvc:=hvc.le j74
     try have hf:=hf.le j74
     try have hv:=hv.le j74
     try have hA:=hA.le j74
     try have q62:=q62.le j74
     try have q63:=q63.le j74
     try have Ro:=Ro.le j74
     obtain rfl:=q74;rw[a2e.1];refine go 4 ?_;refine a0h he rfl (fun g15=>?_);refine go 1 ?_;refine a0m _ he rfl rfl rfl rfl rfl rfl ?_;refine go 10 ?_;refine a0F (a1c _ vc c hvc hsc f sf hf _ l hv (by omega) hsl R hR p a2j day) rfl rfl (fun v82 I82 j82 q82=>?_)
     try have hvc:=hvc.le j82
     try have hf:=hf.le j82
     try have hv:=hv.le j82
     try have hA:=hA.le j82
     try have q62:=q62.le j82
     try have q63:=q63.le j82
     try have Ro:=Ro.le j82
     obtain rfl:=q82;rw[a2e.2.1];refine go 4 ?_;refine a0h he rfl (fun g17=>?_);refine go 1 ?_;refine a0m _ he rfl rfl rfl rfl rfl rfl ?_;refine go 10 ?_;refine a0F (a1c _ vc c hvc hsc f sf hf _ l hv (by omega) hsl R hR p a2r day) rfl rfl (fun v90 I90 j90 q90=>?_)
     try have hvc:=hvc.le j90
     try have hf:=hf.le j90
     try have hv:=hv.le j90
     try have hA:=hA.le j90
     try have q62:=q62.le j90
     try have q63:=q63.le j90
     try have Ro:=Ro.le j90
     obtain rfl:=q90;rw[a2e.2.2];refine go 4 ?_;refine a0h he rfl (fun g19=>?_);refine go 1 ?_;refine a0m _ he rfl rfl rfl rfl rfl rfl ?_;refine go 10 ?_;refine a0F (a1c _ vc c hvc hsc f sf hf _ l hv (by omega) hsl R hR p a2u day) rfl rfl (fun v98 I98 j98 q98=>?_)
     try have hvc:=hvc.le j98
     try have hf:=hf.le j98
     try have hv:=hv.le j98
     try have hA:=hA.le j98
     try have q62:=q62.le j98
     try have q63:=q63.le j98
     try have Ro:=Ro.le j98
     obtain rfl:=q98;rw[a2Q.1];refine go 4 ?_;refine a0h he rfl (fun g21=>?_);refine go 1 ?_;refine a0m _ he rfl rfl rfl rfl rfl rfl ?_;refine go 10 ?_;refine a0F (a1c _ vc c hvc hsc f sf hf _ l hv (by omega) hsl R hR p a6y day) rfl rfl (fun v106 I106 j106 q106=>?_)
     try have hvc:=hvc.le j106
     try have hf:=hf.le j106
     try have hv:=hv.le j106
     try have hA:=hA.le j106
     try have q62:=q62.le j106
     try have q63:=q63.le j106
     try have Ro:=Ro.le j106
     obtain rfl:=q106;rw[a2Q.2];refine go 4 ?_;refine a0h he rfl (fun g23=>?_);refine go 1 ?_;refine a0m _ he rfl rfl rfl rfl rfl rfl ?_;refine go 8 ?_;refine o_v rfl (OV.cast (u:=.bool false) (b2J T.eqg_46 (a4p (bndLife f c l (a1q l R p) p day).1 (bndLife f c l (a1q l R p) p day).1) rfl rfl) (congrArg Value.bool (by simp))) ?_;refine go 3 ?_;refine a0v (a0y rfl rfl rfl (a0l rfl (OV.cast (u:=.bool false) (a4e rfl rfl) (congrArg Value.bool (by simp))) ?_));refine go 4 ?_;refine a0v (a0y rfl rfl rfl (a0l rfl (OV.cast (u:=.bool false) (a4e rfl rfl) (congrArg Value.bool (by rw[a1x (g:=kmO)];simp))) ?_));refine go 4 ?_;refine a0v (a0y rfl rfl rfl (a0l rfl (OV.cast (u:=.bool false) (a4e rfl rfl) (congrArg Value.bool (by rw[a1x (g:=cyO)];simp))) ?_));refine go 4 ?_;refine a0v (a0y rfl rfl rfl (a0l rfl (OV.cast (u:=.bool false) (a4e rfl rfl) (congrArg Value.bool (by rw[a1x (g:=daO)];simp))) ?_));refine go 4 ?_;refine a0v (a0y rfl rfl rfl (a0l rfl (OV.cast (u:=.bool false) (a4e rfl rfl) (congrArg Value.bool (by rw[a1x (g:=(a4x a2u day))];simp))) ?_));refine go 4 ?_;refine a0v (a0y rfl rfl rfl (a0l rfl (OV.cast (u:=.bool false) (a4e rfl rfl) (congrArg Value.bool (by rw[a1x (g:=(a4x a6y day))];simp))) ?_));refine go 3 ?_;refine a0P rfl ?_;refine go 11 ?_;refine a0y rfl rfl rfl (a0l rfl (a0A (pl:=[(0,2),(2,2),(4,2)]) he he rfl rfl) ?_);refine a0v (a0y rfl rfl rfl (a0l rfl (OV.cast (u:=.bool true) (a3Q T.eqg_46 (a4p (bndLife f c l (a1q l R p) p day).1 (bndLife f c l (a1q l R p) p day).1) rfl rfl) (congrArg Value.bool (decide_eq_true (rfl)))) ?_));refine go 4 ?_;refine a0v (a0y rfl rfl rfl (a0l rfl (OV.cast (u:=.bool true) (b4n rfl rfl) (congrArg Value.bool (decide_eq_true (hb1)))) ?_));refine go 6 ?_;refine a0v (a0y rfl rfl rfl (a0l rfl (OV.cast (u:=.bool true) (a6T rfl rfl) (congrArg Value.bool (decide_eq_true (hb2)))) ?_));refine go 6 ?_;refine a0v (a0y rfl rfl rfl (a0l rfl (OV.cast (u:=.bool true) (a6T rfl rfl) (congrArg Value.bool (decide_eq_true (hb3)))) ?_));refine go 6 ?_;refine a0v (a0y rfl rfl rfl (a0l rfl (OV.cast (u:=.bool true) (a6T rfl rfl) (congrArg Value.bool (decide_eq_true (hb4)))) ?_));refine go 5 ?_;refine a0x rfl rfl ?_;exact a8c rfl
end Go.Proofs.YtdapmfkbpnjkmaaGreat
namespace Go.Proofs.YtdapmfkbpnjkmaaGreat
open Go Go.Sx
set_option linter.all false
theorem T.cel_168:Tryz.prog.cellsOf 168=3:=by kernel_rfl
theorem T.cel_170:Tryz.prog.cellsOf 170=3:=by kernel_rfl
theorem T.cel_24:Tryz.prog.cellsOf 24=1:=by kernel_rfl
theorem T.cel_44:Tryz.prog.cellsOf 44=2:=by kernel_rfl
theorem T.cel_64:Tryz.prog.cellsOf 64=2:=by kernel_rfl
theorem T.cel_70:Tryz.prog.cellsOf 70=3:=by kernel_rfl
theorem T.cel_72:Tryz.prog.cellsOf 72=4:=by kernel_rfl
theorem T.cel_9:Tryz.prog.cellsOf 9=1:=by kernel_rfl
theorem T.cel_94:Tryz.prog.cellsOf 94=6:=by kernel_rfl
theorem T.cel_96:Tryz.prog.cellsOf 96=14:=by kernel_rfl
instance T.fds_168:Has (a1n Tryz.prog 168) [(9,0,1),(4,1,1),(166,2,1)]:=⟨by kernel_rfl⟩
instance T.fds_170:Has (a1n Tryz.prog 170) [(9,0,1),(33,1,1),(3,2,1)]:=⟨by kernel_rfl⟩
instance T.fds_24:Has (a1n Tryz.prog 24) [(22,0,1)]:=⟨by kernel_rfl⟩
instance T.fds_44:Has (a1n Tryz.prog 44) [(3,0,1),(3,1,1)]:=⟨by kernel_rfl⟩
instance T.fds_64:Has (a1n Tryz.prog 64) [(62,0,1),(4,1,1)]:=⟨by kernel_rfl⟩
instance T.fds_70:Has (a1n Tryz.prog 70) [(3,0,1),(3,1,1),(68,2,1)]:=⟨by kernel_rfl⟩
instance T.fds_72:Has (a1n Tryz.prog 72) [(24,0,1),(70,1,3)]:=⟨by kernel_rfl⟩
instance T.fds_94:Has (a1n Tryz.prog 94) [(44,0,2),(44,2,2),(44,4,2)]:=⟨by kernel_rfl⟩
instance T.fds_96:Has (a1n Tryz.prog 96) [(3,0,1),(3,1,1),(9,2,1),(9,3,1),(9,4,1),(9,5,1),(9,6,1),(9,7,1),(94,8,6)]:=⟨by kernel_rfl⟩
namespace lawBoundOthers
open Go.ChangeShapes Go.WideShapes Go.ChangeAt Go.RowKit Go.ChangeMaps Go.MapKept
theorem own:ownKnob Tryz.prog.godebug=none:=by kernel_rfl
set_option maxRecDepth 100000 in
theorem lifted (os:Os) (started:os.Started) (H:Type) (enc:TypeId×Value→H) :
  ReturnsInHanded {} Tryz.checked os 12 .any (Rows.boundOthersSpec.pre6 enc Tryz.prog Tryz.f12 Rows.boundOthersRow.domain false) (Rows.boundOthersSpec.post enc Tryz.prog Tryz.f12 false true false false):=by
 refine returnsInHanded_of_change (C:=Tryz.checked) own started (by kernel_rfl) Tryz.func12
  (ChangeSpec.witness6 (enc:=enc) (C:=Tryz.checked) false ⟨#[],#[.agg #[.slice none 0 0,.int .i64 0,.int .i64 0,.slice none 0 0],.slice none 0 0,.string ⟨#[]⟩,.int .i64 0],[]⟩ 8 (by kernel_rfl) (by kernel_rfl) (by kernel_rfl) (by kernel_rfl)) ?_
 intro W base args ds gs before hval0 hW hcnd _
 have hval:∀(j:Nat) t v,Tryz.f12.params[j]? = some t→args[j]? = some v→Value.okWide Tryz.prog W .any base t v:=hval0
 have hW':=hW
 obtain⟨p,q,hA0,hV,rfl,hfz,hnd⟩:=hW
 have hA:DataW.TrodAll enc Tryz.prog W 0 (fun _=>true) true Tryz.f12.params.toList args.toList ds p:=hA0
 rw[Tryz.params12]at hA hval
 obtain⟨v0,vs0,d0,ds0,p0,q0,hargs,rfl,rfl,h0,r0⟩:=trodAll_cons hA;obtain⟨v1,vs1,d1,ds1,p1,q1,rfl,rfl,rfl,h1,r1⟩:=trodAll_cons r0;obtain⟨v2,vs2,d2,ds2,p2,q2,rfl,rfl,rfl,h2,r2⟩:=trodAll_cons r1;obtain⟨v3,vs3,d3,ds3,p3,q3,rfl,rfl,rfl,h3,r3⟩:=trodAll_cons r2;obtain⟨rfl,rfl,rfl⟩:=trodAll_nil r3;obtain rfl:args=#[v0,v1,v2,v3]:=by cases args;simp_all
 obtain⟨rfl,rfl⟩:=trodVars_none hV;clear hA0 hval0;obtain⟨cs0,rfl,hz0⟩:=b1c T.fds_72.eq (hval 0 72 v0 rfl rfl);obtain⟨fu0,hf0⟩:=h0;obtain⟨x0,⟨vc0,sf0,e0,R0,F0⟩,G0⟩:=(a9T T.fds_72.eq T.cel_72 (b1h T.fds_24.eq T.cel_24 (a2i T.und_22.eq T.cel_168 rfl (b1f T.fds_168.eq T.cel_168 (a2w T.und_9.eq) (a6n T.und_4.eq) (a2i T.und_166.eq T.cel_170 rfl (b1g T.fds_170.eq T.cel_170 (a2w T.und_9.eq) (a2i T.und_33.eq T.cel_9 rfl (a2w T.und_9.eq)) (a4a T.und_3.eq)))))) (b1e T.fds_70.eq T.cel_70 T.und_68.eq T.und_3.eq)) enc W 0 _ true fu0 _ _ hf0;obtain rfl:cs0=#[vc0,ci x0.dam.op,ci x0.dam.n,sf0]:=Array.toList_inj.1 e0;obtain⟨s1,n1,c1,rfl⟩:=okWide_slice T.und_25.eq (hval 1 25 v1 rfl rfl);obtain⟨fu1,hf1⟩:=h1;obtain⟨l1,⟨u1,e1,R1⟩,G1⟩:=(a2i T.und_25.eq T.cel_64 rfl (b3J T.fds_64.eq T.cel_64 (a2i T.und_62.eq T.cel_96 rfl (b3H T.fds_96.eq T.cel_96 (a4a T.und_3.eq) (a2w T.und_9.eq) (b3K T.fds_94.eq T.cel_94 (b3I T.fds_44.eq T.cel_44 (a4a T.und_3.eq))))) (a6n T.und_4.eq))) enc W 0 _ true fu1 _ _ hf1
 cases e1
 obtain⟨a2,rfl,rfl,rfl,w2⟩:=open_string T.und_9.eq (hval 2 9 v2 rfl rfl) h2;obtain⟨a3,rfl,rfl,rfl,w3⟩:=open_int T.und_3.eq (hval 3 3 v3 rfl rfl) h3;exact b3r (s:=Rows.boundOthersSpec) Tryz.call12 (b8q (Iw W) vc0 x0.kinds R0 G0.1 x0.dam sf0 F0 G0.2 _ l1 R1 G1 a2 w2 a3 w3) hW' (by kernel_rfl) (by kernel_rfl) rfl T.und_4.eq rfl rfl
end lawBoundOthers
end Go.Proofs.YtdapmfkbpnjkmaaGreat
