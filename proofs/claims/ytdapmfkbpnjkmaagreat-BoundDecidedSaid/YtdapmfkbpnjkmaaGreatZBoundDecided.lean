
import Derived.Test.YtdapmfkbpnjkmaaGreatZBhg
import Derived.ChangeMaps5
import Derived.OpenShut
import Derived.ProofKit
import Derived.Test.YtdapmfkbpnjkmaaGreatRows
namespace Go.Proofs.YtdapmfkbpnjkmaaGreat
open Go Go.Sx
set_option linter.all false
set_option maxRecDepth 20000
set_option maxHeartbeats 4000000
instance T.arr_81:Has (b6f Tryz.prog 81) (3,4,1):=⟨by kernel_rfl⟩
theorem T.cel_4:Tryz.prog.cellsOf 4=1:=by kernel_rfl
theorem T.eqg_46:Tryz.prog.eqGuardType Tryz.prog.depth 46=false:=by kernel_rfl
theorem T.eqg_81:Tryz.prog.eqGuardType Tryz.prog.depth 81=false:=by kernel_rfl
theorem T.inf_4:(Tryz.prog.info? 4).isSome=true:=by kernel_rfl
instance T.ty_81:Has (tyK Tryz.prog 81) (true,3):=⟨by kernel_rfl⟩
instance T.zero_81:Has (a2e Tryz.prog 81) [.bool false,.bool false,.bool false]:=⟨by kernel_rfl⟩
theorem b5m (I:IMap) (vc:Value) (c:List Kind) (hvc:RdS I vc c) (hoc:∀x∈c,c9L x) (f:Fm) (sf:Value) (hf:FmRd I [ci f.op,ci f.n,sf] f) (hof:OkFm f) (v:Value) (l:List Rep) (hv:RdS I v l) (hok:∀x∈l,d2i x) (p:ByteArray) (wp:p.size≤maxLen) (day:Int) (wd:(Lit.int .i64 day).wf=true) (a0:Int) (wa0:(Lit.int .u8 a0).wf=true) (b0:Int) (wb0:(Lit.int .u8 b0).wf=true)  :
    FnV Tryz.prog 14 #[.agg #[vc,ci f.op,ci f.n,sf],v,.string p,.int .i64 (day),.int .u8 a0,.int .u8 b0] I (.bool true):=by
 obtain⟨a,rfl,ha⟩:=c6s wa0;obtain⟨b,rfl,hb⟩:=c6s wb0
 have hv0:=hv
 obtain⟨A,c0,rfl,hA,hc,hm⟩:=hv0;refine enter Tryz.func14 Tryz.call14 rfl Tryz.ntmps14 rfl (fun w0=>?_);refine go 3 ?_;refine a0y _ rfl rfl rfl (fun g6=>?_);refine go 6 ?_;refine a0a (c6c _) rfl rfl ?_;refine go 9 ?_;refine a0a (b6T _ vc c hvc f sf hf _ l hv) rfl rfl ?_;refine go 2 ?_;refine sxb 29 rfl (fun h29 p29=>?_) (fun h29 p29=>?_)
 ·refine go 6 ?_;refine a3B rfl ?_;refine go 8 ?_;refine a0u rfl rfl ?_;exact a8X rfl
 ·refine go 6 ?_;refine cb rfl (fun h33 p33=>?_) (fun h33 p33=>?_)
  ·refine go 8 ?_;refine a0u rfl rfl ?_;exact a8X rfl
  ·obtain⟨hsc,hl12,hsl,hwn⟩:=b6A (show b3f c f l=true by simpa using h29)
   have hl:l.length≤1000000:=by omega
   obtain⟨R,hR⟩:=a9a l;refine go 7 ?_;refine a1e (c1P _ _ l hv hl hsl R hR p) rfl rfl (fun v37 I37 j37 q37=>?_)
   try have hvc:=hvc.le j37
   try have hf:=hf.le j37
   try have hv:=hv.le j37
   try have hA:=hA.le j37
   try have q37:=q37.le j37
   try have hC49:=hC49.le j37
   try have hrk:=hrk.le j37
   try have hSk:=hSk.le j37
   try have R76:=R76.le j37
   try have R78:=R78.le j37
   try have hw83:=hw83.le j37
   have q37s:=q37
   obtain⟨CA,cc,rfl,hCA,_,_⟩:=q37s
   have hol:=a5c (l:=l) (R:=R) (p:=p)
   have hcl3:(a0I l R p).length=(ofN l R p).length:=a2i fun i hi=>b3H hi
   refine go 7 ?_;refine o_v rfl (OV.cast (u:=.int .i64 (((a0I l R p).length:Nat):Int)) (a4M he rfl) (congrArg (Value.int .i64) (by rw[a3E,hcl3]))) ?_;refine go 3 ?_;refine cb rfl (fun h40 p40=>?_) (fun h40 p40=>?_)
   ·refine go 8 ?_;refine a0u rfl rfl ?_;exact a8X rfl
   ·have hl0:0<(a0I l R p).length:=by omega
    obtain⟨k,hkk⟩:∃k,a % (a0I l R p).length=k:=⟨_,rfl⟩
    have hk:k<(a0I l R p).length:=by rw[←hkk];exact Nat.mod_lt _ hl0
    refine go 5 ?_;refine o_v rfl (a2f he he rfl (m:=((a:Nat):Int)) (by rw[IntKind.wrap_i64];omega)) ?_;refine go 1 ?_;refine o_v rfl (OV.cast (u:=.int .i64 (((a0I l R p).length:Nat):Int)) (a4M he rfl) (congrArg (Value.int .i64) (by rw[a3E,hcl3]))) ?_;refine o_v rfl (OV.cast (u:=.int .i64 ((k:Nat):Int)) (d1O rfl rfl (by omega) (by omega)) (by rw[hkk])) ?_;refine go 8 ?_;refine a2Z (b4d _ _ l hv _ (ofN l R p) q37 (fun i hi=>b3H hi) (by omega)) rfl rfl (fun v49 s49 q49=>?_);obtain⟨S49,d49,xs49,rfl,rfl,hF49⟩:=q49;refine c9m (l:=(a0I l R p)) hF49 rfl rfl hl0 (fun g49 cap49 rest49 xss49 hv49 hC49 hR49 hc49 hl49=>?_)
    cases hv49
    obtain⟨Sk,dk,hx49,hrk⟩:=d0w (rest:=rest49) hC49 hk
    have hSk:=hrk.toA
    have hU49:Uk 2 (xss49++rest49):=Uk.append (show Uk 2 xss49 from hC49.uk) hR49
    refine go 8 ?_;refine o_v rfl (a0m he rfl rfl rfl (k) (by omega) hk) ?_;refine o_v rfl (a1V m0 hU49 he rfl (k) (by omega) hx49) ?_;refine go 1 ?_;refine a0a (a4y _ (a0I l R p)[k] Sk dk hrk (hsl _ (a3M (List.getElem_mem hk)))) rfl rfl ?_;refine go 3 ?_;refine cb rfl (fun h55 p55=>?_) (fun h55 p55=>?_)
    ·refine go 8 ?_;refine a0u rfl rfl ?_;exact a8X rfl
    ·have hch:chs (a0I l R p)[k]≠0:=by simpa using h55
     have hvk:=a4N hch
     have hol2:=a2w hvk
     obtain⟨n,hnn⟩:∃n,b % (a0I l R p)[k].options.length=n:=⟨_,rfl⟩
     have hn:n<(a0I l R p)[k].options.length:=by rw[←hnn];exact Nat.mod_lt _ (by omega)
     obtain⟨R2,hR2⟩:=a9a ((a0I l R p).set k (a1B (a0I l R p)[k] n))
     have hl2:((a0I l R p).set k (a1B (a0I l R p)[k] n)).length≤12:=by rw[List.length_set];omega
     have hsl2:=d1B (l:=(a0I l R p)) (k:=k) (fun r hr=>hsl r (a3M hr)) (d0W (hsl _ (a3M (List.getElem_mem hk))) hn)
     refine go 5 ?_;refine o_v rfl (a2f he he rfl (m:=((b:Nat):Int)) (by rw[IntKind.wrap_i64];omega)) ?_;refine go 2 ?_;refine o_v rfl (a0m he rfl rfl rfl (k) (by omega) hk) ?_;refine go 1 ?_;refine o_v rfl (b7Y m0 hU49 he rfl (k) 0 (by omega) hx49 rfl) ?_;refine go 1 ?_;refine o_v rfl (OV.cast (u:=.int .i64 ((n:Nat):Int)) (d1O rfl rfl (by omega) (by omega)) (by rw[hnn])) ?_;refine go 9 ?_;refine o_v rfl (a0m he rfl rfl rfl (k) (by omega) hk) ?_;refine go 1 ?_;refine o_v rfl (b7Y m0 hU49 he rfl (k) 0 (by omega) hx49 rfl) ?_;refine go 1 ?_;obtain⟨b74,o74,w74,e74,c74,r74⟩:=RdA.at_ hSk (i:=n) hn;obtain rfl:=r74;refine o_v rfl (a0m he rfl rfl e74 (n) (by omega) hn) ?_;refine o_v rfl (a0G he rfl c74 rfl) ?_;refine go 1 ?_;refine a0d he he rfl rfl rfl rfl rfl rfl rfl (fun v76=>?_);refine a0l (l:=[(a0I l R p)[k].options[n]]) rfl rfl ((.one rfl)) (fun I76 j76 R76=>?_)
     try have hvc:=hvc.le j76
     try have hf:=hf.le j76
     try have hv:=hv.le j76
     try have hA:=hA.le j76
     try have q37:=q37.le j76
     try have hC49:=hC49.le j76
     try have hrk:=hrk.le j76
     try have hSk:=hSk.le j76
     try have R76:=R76.le j76
     try have R78:=R78.le j76
     try have hw83:=hw83.le j76
     have R76s:=R76
     obtain⟨A76,c76,rfl,_,_,_⟩:=R76s;refine go 1 ?_;refine a0s rfl (a0z (pl:=[(0,1),(1,1)]) he he rfl rfl) ?_;refine o_v rfl (a0m he rfl rfl rfl (k) (by omega) hk) ?_;refine go 1 ?_;refine a2d _ (k) hU49 he rfl rfl rfl rfl rfl (by omega) (by rw[List.length_append,hC49.len];omega) ?_;refine c2o (l:=(a0I l R p)) (a1B (a0I l R p)[k] n) hC49 hR49 rfl rfl hk hc49 hl49 ⟨_,rfl,(by rw[a6p hn];exact R76)⟩ (fun ws78 hF78=>?_);refine a0l (l:=((a0I l R p).set k (a1B (a0I l R p)[k] n))) rfl (by simp) (hF78) (fun I78 j78 R78=>?_)
     try have hvc:=hvc.le j78
     try have hf:=hf.le j78
     try have hv:=hv.le j78
     try have hA:=hA.le j78
     try have q37:=q37.le j78
     try have hC49:=hC49.le j78
     try have hrk:=hrk.le j78
     try have hSk:=hSk.le j78
     try have R76:=R76.le j78
     try have R78:=R78.le j78
     try have hw83:=hw83.le j78
     refine go 5 ?_;refine o_v rfl (a1W ([vc]) m0 he rfl rfl rfl) ?_;refine go 2 ?_;refine a1e (c8X _ vc c hvc hsc _ ((a0I l R p).set k (a1B (a0I l R p)[k] n)) R78 (by omega) hsl2) rfl rfl (fun v83 I83 j83 q83=>?_)
     try have hvc:=hvc.le j83
     try have hf:=hf.le j83
     try have hv:=hv.le j83
     try have hA:=hA.le j83
     try have q37:=q37.le j83
     try have hC49:=hC49.le j83
     try have hrk:=hrk.le j83
     try have hSk:=hSk.le j83
     try have R76:=R76.le j83
     try have R78:=R78.le j83
     try have hw83:=hw83.le j83
     obtain⟨w83,rfl,hw83⟩:=q83;refine go 14 ?_;refine a1e (a6U _ vc c hvc hsc f sf hf _ l hv (by omega) hsl R hR p day) rfl rfl (fun v91 I91 j91 q91=>?_)
     try have hvc:=hvc.le j91
     try have hf:=hf.le j91
     try have hv:=hv.le j91
     try have hA:=hA.le j91
     try have q37:=q37.le j91
     try have hC49:=hC49.le j91
     try have hrk:=hrk.le j91
     try have hSk:=hSk.le j91
     try have R76:=R76.le j91
     try have R78:=R78.le j91
     try have hw83:=hw83.le j91
     obtain rfl:=q91;obtain⟨S1,hS1⟩:∃q,q=bndLife f c l (a0I l R p) p day:=⟨_,rfl⟩;rw[←hS1];refine go 4 ?_;refine a0h he rfl (fun g20=>?_);refine go 1 ?_;refine a0p _ he rfl rfl rfl rfl rfl rfl ?_;refine go 10 ?_;refine a1e (a6U _ vc c hvc hsc f sf hf _ ((a0I l R p).set k (a1B (a0I l R p)[k] n)) R78 (by omega) hsl2 R2 hR2 p day) rfl rfl (fun v99 I99 j99 q99=>?_)
     try have hvc:=hvc.le j99
     try have hf:=hf.le j99
     try have hv:=hv.le j99
     try have hA:=hA.le j99
     try have q37:=q37.le j99
     try have hC49:=hC49.le j99
     try have hrk:=hrk.le j99
     try have hSk:=hSk.le j99
     try have R76:=R76.le j99
     try have R78:=R78.le j99
     try have hw83:=hw83.le j99
     obtain rfl:=q99;obtain⟨S2,hS2⟩:∃q,q=bndLife f c ((a0I l R p).set k (a1B (a0I l R p)[k] n)) (a0I ((a0I l R p).set k (a1B (a0I l R p)[k] n)) R2 p) p day:=⟨_,rfl⟩;rw[←hS2];refine go 4 ?_;refine a0h he rfl (fun g22=>?_);refine go 1 ?_;refine a0p _ he rfl rfl rfl rfl rfl rfl ?_;refine go 9 ?_;refine sxb 104 rfl (fun h104 p104=>?_) (fun h104 p104=>?_)
     ·refine go 5 ?_;refine a3B rfl ?_;refine go 8 ?_;refine a0u rfl rfl ?_;exact a8X rfl
     ·refine go 5 ?_;refine cb rfl (fun h107 p107=>?_) (fun h107 p107=>?_)
      ·refine go 8 ?_;refine a0u rfl rfl ?_;exact a8X rfl
      ·obtain⟨hd1,hd2⟩:=b4V hl12 (by omega) hk hn hR2 hS1 hS2 (by simpa using h107) (by simpa using h104);refine go 9 ?_;refine sxb 113 rfl (fun h113 p113=>?_) (fun h113 p113=>?_)
       ·refine go 3 ?_;refine a0E rfl rfl h113 (a0a (b7D _ S2.1 S1.1 (hd1 (by simpa using h113))) rfl rfl ?_);refine go 10 ?_;refine a0u rfl rfl ?_;exact a8X rfl
       ·refine go 6 ?_;refine a0H (a0E rfl rfl rfl (a0s rfl (OV.cast (u:=.bool true) (b5W rfl rfl) (congrArg Value.bool (decide_eq_true (hd2 (by simpa using h113))))) ?_));refine go 6 ?_;refine a0u rfl rfl ?_;exact a8X rfl
end Go.Proofs.YtdapmfkbpnjkmaaGreat
namespace Go.Proofs.YtdapmfkbpnjkmaaGreat
open Go Go.Sx
set_option linter.all false
theorem T.cel_168:Tryz.prog.cellsOf 168=3:=by kernel_rfl
theorem T.cel_170:Tryz.prog.cellsOf 170=3:=by kernel_rfl
theorem T.cel_24:Tryz.prog.cellsOf 24=1:=by kernel_rfl
theorem T.cel_44:Tryz.prog.cellsOf 44=2:=by kernel_rfl
theorem T.cel_64:Tryz.prog.cellsOf 64=2:=by kernel_rfl
theorem T.cel_70:Tryz.prog.cellsOf 70=3:=by kernel_rfl
theorem T.cel_72:Tryz.prog.cellsOf 72=4:=by kernel_rfl
theorem T.cel_9:Tryz.prog.cellsOf 9=1:=by kernel_rfl
theorem T.cel_94:Tryz.prog.cellsOf 94=6:=by kernel_rfl
theorem T.cel_96:Tryz.prog.cellsOf 96=14:=by kernel_rfl
instance T.fds_168:Has (a1o Tryz.prog 168) [(9,0,1),(4,1,1),(166,2,1)]:=⟨by kernel_rfl⟩
instance T.fds_170:Has (a1o Tryz.prog 170) [(9,0,1),(33,1,1),(3,2,1)]:=⟨by kernel_rfl⟩
instance T.fds_24:Has (a1o Tryz.prog 24) [(22,0,1)]:=⟨by kernel_rfl⟩
instance T.fds_44:Has (a1o Tryz.prog 44) [(3,0,1),(3,1,1)]:=⟨by kernel_rfl⟩
instance T.fds_64:Has (a1o Tryz.prog 64) [(62,0,1),(4,1,1)]:=⟨by kernel_rfl⟩
instance T.fds_70:Has (a1o Tryz.prog 70) [(3,0,1),(3,1,1),(68,2,1)]:=⟨by kernel_rfl⟩
instance T.fds_72:Has (a1o Tryz.prog 72) [(24,0,1),(70,1,3)]:=⟨by kernel_rfl⟩
instance T.fds_94:Has (a1o Tryz.prog 94) [(44,0,2),(44,2,2),(44,4,2)]:=⟨by kernel_rfl⟩
instance T.fds_96:Has (a1o Tryz.prog 96) [(3,0,1),(3,1,1),(9,2,1),(9,3,1),(9,4,1),(9,5,1),(9,6,1),(9,7,1),(94,8,6)]:=⟨by kernel_rfl⟩
namespace lawBoundDecided
open Go.ChangeShapes Go.WideShapes Go.ChangeAt Go.RowKit Go.ChangeMaps Go.MapKept
theorem own:ownKnob Tryz.prog.godebug=none:=by kernel_rfl
set_option maxRecDepth 100000 in
theorem lifted (os:Os) (started:os.Started) (H:Type) (enc:TypeId×Value→H) :
  ReturnsInHanded {} Tryz.checked os 14 .any (Rows.boundDecidedSpec.pre6 enc Tryz.prog Tryz.f14 Rows.boundDecidedRow.domain false) (Rows.boundDecidedSpec.post enc Tryz.prog Tryz.f14 false true false false):=by
 refine returnsInHanded_of_change (C:=Tryz.checked) own started (by kernel_rfl) Tryz.func14
  (ChangeSpec.witness6 (enc:=enc) (C:=Tryz.checked) false ⟨#[],#[.agg #[.slice none 0 0,.int .i64 0,.int .i64 0,.slice none 0 0],.slice none 0 0,.string ⟨#[]⟩,.int .i64 0,.int .u8 0,.int .u8 0],[]⟩ 8 (by kernel_rfl) (by kernel_rfl) (by kernel_rfl) (by kernel_rfl)) ?_
 intro W base args ds gs before hval0 hW hcnd _
 have hval:∀(j:Nat) t v,Tryz.f14.params[j]? = some t→args[j]? = some v→Value.okWide Tryz.prog W .any base t v:=hval0
 have hW':=hW
 obtain⟨p,q,hA0,hV,rfl,hfz,hnd⟩:=hW
 have hA:DataW.TrodAll enc Tryz.prog W 0 (fun _=>true) true Tryz.f14.params.toList args.toList ds p:=hA0
 rw[Tryz.params14]at hA hval
 obtain⟨v0,vs0,d0,ds0,p0,q0,hargs,rfl,rfl,h0,r0⟩:=trodAll_cons hA;obtain⟨v1,vs1,d1,ds1,p1,q1,rfl,rfl,rfl,h1,r1⟩:=trodAll_cons r0;obtain⟨v2,vs2,d2,ds2,p2,q2,rfl,rfl,rfl,h2,r2⟩:=trodAll_cons r1;obtain⟨v3,vs3,d3,ds3,p3,q3,rfl,rfl,rfl,h3,r3⟩:=trodAll_cons r2;obtain⟨v4,vs4,d4,ds4,p4,q4,rfl,rfl,rfl,h4,r4⟩:=trodAll_cons r3;obtain⟨v5,vs5,d5,ds5,p5,q5,rfl,rfl,rfl,h5,r5⟩:=trodAll_cons r4;obtain⟨rfl,rfl,rfl⟩:=trodAll_nil r5;obtain rfl:args=#[v0,v1,v2,v3,v4,v5]:=by cases args;simp_all
 obtain⟨rfl,rfl⟩:=trodVars_none hV;clear hA0 hval0;obtain⟨cs0,rfl,hz0⟩:=b1e T.fds_72.eq (hval 0 72 v0 rfl rfl);obtain⟨fu0,hf0⟩:=h0;obtain⟨x0,⟨vc0,sf0,e0,R0,F0⟩,G0⟩:=(a9U T.fds_72.eq T.cel_72 (b1j T.fds_24.eq T.cel_24 (a2l T.und_22.eq T.cel_168 rfl (b1h T.fds_168.eq T.cel_168 (a2v T.und_9.eq) (a6q T.und_4.eq) (a2l T.und_166.eq T.cel_170 rfl (b1i T.fds_170.eq T.cel_170 (a2v T.und_9.eq) (a2l T.und_33.eq T.cel_9 rfl (a2v T.und_9.eq)) (a4a T.und_3.eq)))))) (b1g T.fds_70.eq T.cel_70 T.und_68.eq T.und_3.eq)) enc W 0 _ true fu0 _ _ hf0;obtain rfl:cs0=#[vc0,ci x0.dam.op,ci x0.dam.n,sf0]:=Array.toList_inj.1 e0;obtain⟨s1,n1,c1,rfl⟩:=okWide_slice T.und_25.eq (hval 1 25 v1 rfl rfl);obtain⟨fu1,hf1⟩:=h1;obtain⟨l1,⟨u1,e1,R1⟩,G1⟩:=(a2l T.und_25.eq T.cel_64 rfl (b3N T.fds_64.eq T.cel_64 (a2l T.und_62.eq T.cel_96 rfl (b3L T.fds_96.eq T.cel_96 (a4a T.und_3.eq) (a2v T.und_9.eq) (b3O T.fds_94.eq T.cel_94 (b3M T.fds_44.eq T.cel_44 (a4a T.und_3.eq))))) (a6q T.und_4.eq))) enc W 0 _ true fu1 _ _ hf1
 cases e1
 obtain⟨a2,rfl,rfl,rfl,w2⟩:=open_string T.und_9.eq (hval 2 9 v2 rfl rfl) h2;obtain⟨a3,rfl,rfl,rfl,w3⟩:=open_int T.und_3.eq (hval 3 3 v3 rfl rfl) h3;obtain⟨a4,rfl,rfl,rfl,w4⟩:=open_int T.und_5.eq (hval 4 5 v4 rfl rfl) h4;obtain⟨a5,rfl,rfl,rfl,w5⟩:=open_int T.und_5.eq (hval 5 5 v5 rfl rfl) h5;exact b3v (s:=Rows.boundDecidedSpec) Tryz.call14 (b5m (Iw W) vc0 x0.kinds R0 G0.1 x0.dam sf0 F0 G0.2 _ l1 R1 G1 a2 w2 a3 w3 a4 w4 a5 w5) hW' (by kernel_rfl) (by kernel_rfl) rfl T.und_4.eq rfl rfl
end lawBoundDecided
end Go.Proofs.YtdapmfkbpnjkmaaGreat
