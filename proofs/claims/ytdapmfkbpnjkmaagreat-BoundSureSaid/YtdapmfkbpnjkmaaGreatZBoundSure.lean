
import Derived.Test.YtdapmfkbpnjkmaaGreatZBof
import Derived.ChangeMaps5
import Derived.OpenShut
import Derived.ProofKit
import Derived.Test.YtdapmfkbpnjkmaaGreatRows
namespace Go.Proofs.YtdapmfkbpnjkmaaGreat
open Go Go.Sx
set_option linter.all false
set_option maxRecDepth 20000
set_option maxHeartbeats 4000000
instance T.arr_81:Has (b7M Tryz.prog 81) (3,4,1):=⟨by kernel_rfl⟩
theorem T.cel_4:Tryz.prog.cellsOf 4=1:=by kernel_rfl
theorem T.eqg_46:Tryz.prog.eqGuardType Tryz.prog.depth 46=false:=by kernel_rfl
theorem T.eqg_81:Tryz.prog.eqGuardType Tryz.prog.depth 81=false:=by kernel_rfl
theorem T.inf_4:(Tryz.prog.info? 4).isSome=true:=by kernel_rfl
instance T.ty_81:Has (tyK Tryz.prog 81) (true,3):=⟨by kernel_rfl⟩
instance T.zero_81:Has (a1Z Tryz.prog 81) [.bool false,.bool false,.bool false]:=⟨by kernel_rfl⟩
theorem c3F (I:IMap) (vc:Value) (c:List Kind) (hvc:RdS I vc c) (hoc:∀x∈c,c8T x) (f:Fm) (sf:Value) (hf:FmRd I [ci f.op,ci f.n,sf] f) (hof:OkFm f) (v:Value) (l:List Rep) (hv:RdS I v l) (hok:∀x∈l,d1h x) (p:ByteArray) (wp:p.size≤maxLen) (s:ByteArray) (ws:s.size≤maxLen) (day:Int) (wd:(Lit.int .i64 day).wf=true) :
    FnV Tryz.prog 11 #[.agg #[vc,ci f.op,ci f.n,sf],v,.string p,.string s,.int .i64 (day)] I (.bool true):=by
 have hv0:=hv
 obtain⟨A,c0,rfl,hA,hc,hm⟩:=hv0;refine enter Tryz.func11 Tryz.call11 rfl Tryz.ntmps11 rfl (fun w0=>?_);refine go 3 ?_;refine a0B _ rfl rfl rfl (fun g5=>?_);refine go 6 ?_;refine a0a (c5t _) rfl rfl ?_;refine go 9 ?_;refine a0a (b6B _ vc c hvc f sf hf _ l hv) rfl rfl ?_;refine go 2 ?_;refine sxb 35 rfl (fun h35 p35=>?_) (fun h35 p35=>?_)
 ·refine go 9 ?_;refine a3c rfl ?_;refine go 8 ?_;refine a0x rfl rfl ?_;exact a8c rfl
 ·refine go 4 ?_;refine a0v (a0y rfl rfl h35 (a0l rfl (d0L rfl rfl) ?_));refine go 4 ?_;refine cb rfl (fun h42 p42=>?_) (fun h42 p42=>?_)
  ·refine go 8 ?_;refine a0x rfl rfl ?_;exact a8c rfl
  ·obtain⟨hsc,hl12,hsl,_⟩:=b6l (show b3d c f l=true by simpa using h35)
   have hl:l.length≤1000000:=by omega
   obtain⟨R,hR⟩:=a9g l;refine go 7 ?_;refine a4H he he rfl rfl rfl (by omega) (by omega) rfl (fun g46=>?_);refine go 6 ?_;refine a2f (fun Ig46 jg46 cg46=>?_)
   have hvc:=hvc.le jg46
   have hf:=hf.le jg46
   have hv:=hv.le jg46
   have hA:=hA.le jg46
   refine go 4 ?_
   refine a0L (α:=Nat) 0 (fun i=>Ig46)
    (fun i=>[(1,.slice A l.length c0),(2,.string p),(3,.string s),(4,.int .i64 (day)),(5,.pointer (some ⟨g5,0,none⟩)),(11,.bool true),(12,.slice (some ⟨g46,0,none⟩) l.length l.length),(13,.int .i64 ((i:Nat):Int))])
    (fun i=>[.blk g5 72 [vc,ci f.op,ci f.n,sf]])
    (fun i=>i≤l.length∧∀r∈l.take i,chs r=1)
    (fun i=>l.length-i) ⟨Nat.zero_le _,fun r hr=>by simp at hr⟩ rfl sb rfl ?_
   intro i ⟨hi,hn⟩;refine go 9 ?_;refine cb rfl (fun h50 p50=>?_) (fun h50 p50=>?_)
   ·have hlt:i<l.length:=by omega
    refine go 8 ?_;obtain⟨b55,o55,w55,e55,c55,r55⟩:=RdA.at_ hA (i:=i) (by omega);obtain⟨q55,rfl,S55,d55,rfl,hS55,hd55,hm55⟩:=r55;refine o_v rfl (a0n he rfl rfl e55 (i) (by omega) (by omega)) ?_;refine o_v rfl (a0H he rfl c55 rfl) ?_;refine go 1 ?_;refine a0a (a4B _ l[i] S55 d55 ⟨_,_,rfl,hS55,hd55,hm55⟩ (hsl _ (List.getElem_mem hlt))) rfl rfl ?_;refine go 3 ?_;refine cb rfl (fun h58 p58=>?_) (fun h58 p58=>?_)
    ·refine go 12 ?_;refine a0x rfl rfl ?_;exact a8c rfl
    ·refine go 9 ?_;exact a0J (i+1) ⟨by omega,c3R hlt hn (by simpa using h58)⟩ (by omega) rfl sb rfl
   ·obtain rfl:i=l.length:=by omega
    rw[List.take_length]at hn
    have hpl:=b3Q l (List.replicate l.length (0:Int))
    refine go 10 ?_;refine a0F (b3Y _ _ l hv hl hsl _ (List.replicate l.length (0:Int)) (a7p (b3n l.length▸cg46) (by simp) hl)) rfl rfl (fun v63 I63 j63 q63=>?_)
    try have hvc:=hvc.le j63
    try have hf:=hf.le j63
    try have hv:=hv.le j63
    try have hA:=hA.le j63
    try have q62:=q62.le j63
    try have q63:=q63.le j63
    try have Ro:=Ro.le j63
    try have hz63:=hz63.le j63
    try have hwa:=hwa.le j63
    try have hwb:=hwb.le j63
    try have cg46:=cg46.le j63
    try have R46:=R46.le j63
    obtain⟨z63,rfl,hz63⟩:=q63;refine go 12 ?_;refine a0F (b2f _ vc c hvc hsc f sf hf _ (a1i l (List.replicate l.length (0:Int))).1 hz63 (by omega) (a9Y hsl) 40000) rfl rfl (fun v69 I69 j69 q69=>?_)
    try have hvc:=hvc.le j69
    try have hf:=hf.le j69
    try have hv:=hv.le j69
    try have hA:=hA.le j69
    try have q62:=q62.le j69
    try have q63:=q63.le j69
    try have Ro:=Ro.le j69
    try have hz63:=hz63.le j69
    try have hwa:=hwa.le j69
    try have hwb:=hwb.le j69
    try have cg46:=cg46.le j69
    try have R46:=R46.le j69
    obtain⟨wa,rfl,hwa⟩:=q69;refine go 5 ?_;refine a0h he rfl (fun g16=>?_);refine go 1 ?_;refine a0m _ he rfl rfl rfl rfl rfl (by simp[RdS.one hwa]) ?_;refine go 10 ?_;refine a0F (b2f _ vc c hvc hsc f sf hf _ (a1i l (List.replicate l.length (0:Int))).1 hz63 (by omega) (a9Y hsl) day) rfl rfl (fun v77 I77 j77 q77=>?_)
    try have hvc:=hvc.le j77
    try have hf:=hf.le j77
    try have hv:=hv.le j77
    try have hA:=hA.le j77
    try have q62:=q62.le j77
    try have q63:=q63.le j77
    try have Ro:=Ro.le j77
    try have hz63:=hz63.le j77
    try have hwa:=hwa.le j77
    try have hwb:=hwb.le j77
    try have cg46:=cg46.le j77
    try have R46:=R46.le j77
    obtain⟨wb,rfl,hwb⟩:=q77;refine go 5 ?_;refine a0h he rfl (fun g19=>?_);refine go 1 ?_;refine a0m _ he rfl rfl rfl rfl rfl (by simp[RdS.one hwb]) ?_;refine go 9 ?_;refine a5f (c5r _ _ _ hwb p) rfl rfl (fun v84 q84=>?_);obtain⟨vs84,rfl,s84,rfl,hs84⟩:=q84;refine go 4 ?_;refine a0h he rfl (fun g22=>?_);refine go 1 ?_;refine a0m _ he rfl rfl rfl rfl rfl (Enc.one (α:=Part) (x:=((a0O (runL f c (a1i l (List.replicate l.length (0:Int))).1 day).1 p).getD zPart)) ⟨s84,rfl,hs84⟩) ?_;refine go 9 ?_;refine sxb 89 rfl (fun h89 p89=>?_) (fun h89 p89=>?_)
    ·refine go 17 ?_;refine a3c rfl ?_;refine go 8 ?_;refine a0x rfl rfl ?_;exact a8c rfl
    ·refine go 4 ?_;refine sxb 93 rfl (fun h93 p93=>?_) (fun h93 p93=>?_)
     ·refine go 13 ?_;refine a3c rfl ?_;refine go 8 ?_;refine a0x rfl rfl ?_;exact a8c rfl
     ·refine go 4 ?_;refine sxb 97 rfl (fun h97 p97=>?_) (fun h97 p97=>?_)
      ·refine go 9 ?_;refine a3c rfl ?_;refine go 8 ?_;refine a0x rfl rfl ?_;exact a8c rfl
      ·refine go 4 ?_;refine sxb 101 rfl (fun h101 p101=>?_) (fun h101 p101=>?_)
       ·refine go 5 ?_;refine a3c rfl ?_;refine go 8 ?_;refine a0x rfl rfl ?_;exact a8c rfl
       ·refine go 5 ?_;refine cb rfl (fun h104 p104=>?_) (fun h104 p104=>?_)
        ·refine go 8 ?_;refine a0x rfl rfl ?_;exact a8c rfl
        ·have hr0:(runL f c (a1i l (List.replicate l.length (0:Int))).1 40000).2.2=0:=by simpa using h89
         have hd:0≤day∧day≤40000:=⟨by simpa using h101,by simpa using h104⟩
         obtain⟨q,hq⟩:=Option.isSome_iff_exists.1 (show (a0O (runL f c (a1i l (List.replicate l.length (0:Int))).1 day).1 p).isSome=true by simpa using h97)
         have hbs:=fun (g:Option Part→Ivl)=>c2I (g:=g) hR (by omega) hn hr0 hd hq
         have hqd:((a0O (runL f c (a1i l (List.replicate l.length (0:Int))).1 day).1 p).getD zPart)=q:=by rw[hq];rfl
         rw[hqd]at hs84 ⊢
         refine go 9 ?_;refine a0F (a4T _ vc c hvc hsc f sf hf _ l hv (by omega) hsl R hR p day) rfl rfl (fun v111 I111 j111 q111=>?_)
         try have hvc:=hvc.le j111
         try have hf:=hf.le j111
         try have hv:=hv.le j111
         try have hA:=hA.le j111
         try have q62:=q62.le j111
         try have q63:=q63.le j111
         try have Ro:=Ro.le j111
         try have hz63:=hz63.le j111
         try have hwa:=hwa.le j111
         try have hwb:=hwb.le j111
         try have cg46:=cg46.le j111
         try have R46:=R46.le j111
         obtain rfl:=q111;rw[c0E hbs];refine go 4 ?_;refine a0h he rfl (fun g24=>?_);refine go 1 ?_;refine a0m _ he rfl rfl rfl rfl rfl rfl ?_;refine go 11 ?_;refine a0F (a1c _ vc c hvc hsc f sf hf _ l hv (by omega) hsl R hR p s day) rfl rfl (fun v120 I120 j120 q120=>?_)
         try have hvc:=hvc.le j120
         try have hf:=hf.le j120
         try have hv:=hv.le j120
         try have hA:=hA.le j120
         try have q62:=q62.le j120
         try have q63:=q63.le j120
         try have Ro:=Ro.le j120
         try have hz63:=hz63.le j120
         try have hwa:=hwa.le j120
         try have hwb:=hwb.le j120
         try have cg46:=cg46.le j120
         try have R46:=R46.le j120
         obtain rfl:=q120;rw[c4W hbs hd];refine go 4 ?_;refine a0h he rfl (fun g26=>?_);refine go 1 ?_;refine a0m _ he rfl rfl rfl rfl rfl rfl ?_;refine go 9 ?_;refine a0a (b3u _ q s84 hs84.one s day) rfl rfl ?_;refine go 4 ?_;refine a0h he rfl (fun g28=>?_);refine go 1 ?_;refine a0m _ he rfl rfl rfl rfl rfl rfl ?_;refine go 8 ?_;refine a0v (a0y rfl rfl rfl (a0l rfl (OV.cast (u:=.bool true) (b4m rfl rfl) (congrArg Value.bool (decide_eq_true (rfl)))) ?_));refine go 4 ?_;refine a0v (a0y rfl rfl rfl (a0l rfl (a2o (q.life.cells) m3 he rfl rfl rfl) ?_));refine a0v (a0y rfl rfl rfl (a0l rfl (OV.cast (u:=.bool true) (a3Q T.eqg_46 (a4p q.life q.life) rfl rfl) (congrArg Value.bool (decide_eq_true (rfl)))) ?_));refine go 4 ?_;refine a0v (a0y rfl rfl rfl (a0l rfl (OV.cast (u:=.bool true) (a3Q T.eqg_44 (a9w (a5y q s day).1 (a5y q s day).1) rfl rfl) (congrArg Value.bool (decide_eq_true (rfl)))) ?_));refine go 4 ?_;refine a0v (a0y rfl rfl rfl (a0l rfl (OV.cast (u:=.bool true) (b4m rfl rfl) (congrArg Value.bool (decide_eq_true (rfl)))) ?_));refine go 5 ?_;refine a0x rfl rfl ?_;exact a8c rfl
end Go.Proofs.YtdapmfkbpnjkmaaGreat
namespace Go.Proofs.YtdapmfkbpnjkmaaGreat
open Go Go.Sx
set_option linter.all false
theorem T.cel_168:Tryz.prog.cellsOf 168=3:=by kernel_rfl
theorem T.cel_170:Tryz.prog.cellsOf 170=3:=by kernel_rfl
theorem T.cel_24:Tryz.prog.cellsOf 24=1:=by kernel_rfl
theorem T.cel_44:Tryz.prog.cellsOf 44=2:=by kernel_rfl
theorem T.cel_64:Tryz.prog.cellsOf 64=2:=by kernel_rfl
theorem T.cel_70:Tryz.prog.cellsOf 70=3:=by kernel_rfl
theorem T.cel_72:Tryz.prog.cellsOf 72=4:=by kernel_rfl
theorem T.cel_9:Tryz.prog.cellsOf 9=1:=by kernel_rfl
theorem T.cel_94:Tryz.prog.cellsOf 94=6:=by kernel_rfl
theorem T.cel_96:Tryz.prog.cellsOf 96=14:=by kernel_rfl
instance T.fds_168:Has (a1n Tryz.prog 168) [(9,0,1),(4,1,1),(166,2,1)]:=⟨by kernel_rfl⟩
instance T.fds_170:Has (a1n Tryz.prog 170) [(9,0,1),(33,1,1),(3,2,1)]:=⟨by kernel_rfl⟩
instance T.fds_24:Has (a1n Tryz.prog 24) [(22,0,1)]:=⟨by kernel_rfl⟩
instance T.fds_44:Has (a1n Tryz.prog 44) [(3,0,1),(3,1,1)]:=⟨by kernel_rfl⟩
instance T.fds_64:Has (a1n Tryz.prog 64) [(62,0,1),(4,1,1)]:=⟨by kernel_rfl⟩
instance T.fds_70:Has (a1n Tryz.prog 70) [(3,0,1),(3,1,1),(68,2,1)]:=⟨by kernel_rfl⟩
instance T.fds_72:Has (a1n Tryz.prog 72) [(24,0,1),(70,1,3)]:=⟨by kernel_rfl⟩
instance T.fds_94:Has (a1n Tryz.prog 94) [(44,0,2),(44,2,2),(44,4,2)]:=⟨by kernel_rfl⟩
instance T.fds_96:Has (a1n Tryz.prog 96) [(3,0,1),(3,1,1),(9,2,1),(9,3,1),(9,4,1),(9,5,1),(9,6,1),(9,7,1),(94,8,6)]:=⟨by kernel_rfl⟩
namespace lawBoundSure
open Go.ChangeShapes Go.WideShapes Go.ChangeAt Go.RowKit Go.ChangeMaps Go.MapKept
theorem own:ownKnob Tryz.prog.godebug=none:=by kernel_rfl
set_option maxRecDepth 100000 in
theorem lifted (os:Os) (started:os.Started) (H:Type) (enc:TypeId×Value→H) :
  ReturnsInHanded {} Tryz.checked os 11 .any (Rows.boundSureSpec.pre6 enc Tryz.prog Tryz.f11 Rows.boundSureRow.domain false) (Rows.boundSureSpec.post enc Tryz.prog Tryz.f11 false true false false):=by
 refine returnsInHanded_of_change (C:=Tryz.checked) own started (by kernel_rfl) Tryz.func11
  (ChangeSpec.witness6 (enc:=enc) (C:=Tryz.checked) false ⟨#[],#[.agg #[.slice none 0 0,.int .i64 0,.int .i64 0,.slice none 0 0],.slice none 0 0,.string ⟨#[]⟩,.string ⟨#[]⟩,.int .i64 0],[]⟩ 8 (by kernel_rfl) (by kernel_rfl) (by kernel_rfl) (by kernel_rfl)) ?_
 intro W base args ds gs before hval0 hW hcnd _
 have hval:∀(j:Nat) t v,Tryz.f11.params[j]? = some t→args[j]? = some v→Value.okWide Tryz.prog W .any base t v:=hval0
 have hW':=hW
 obtain⟨p,q,hA0,hV,rfl,hfz,hnd⟩:=hW
 have hA:DataW.TrodAll enc Tryz.prog W 0 (fun _=>true) true Tryz.f11.params.toList args.toList ds p:=hA0
 rw[Tryz.params11]at hA hval
 obtain⟨v0,vs0,d0,ds0,p0,q0,hargs,rfl,rfl,h0,r0⟩:=trodAll_cons hA;obtain⟨v1,vs1,d1,ds1,p1,q1,rfl,rfl,rfl,h1,r1⟩:=trodAll_cons r0;obtain⟨v2,vs2,d2,ds2,p2,q2,rfl,rfl,rfl,h2,r2⟩:=trodAll_cons r1;obtain⟨v3,vs3,d3,ds3,p3,q3,rfl,rfl,rfl,h3,r3⟩:=trodAll_cons r2;obtain⟨v4,vs4,d4,ds4,p4,q4,rfl,rfl,rfl,h4,r4⟩:=trodAll_cons r3;obtain⟨rfl,rfl,rfl⟩:=trodAll_nil r4;obtain rfl:args=#[v0,v1,v2,v3,v4]:=by cases args;simp_all
 obtain⟨rfl,rfl⟩:=trodVars_none hV;clear hA0 hval0;obtain⟨cs0,rfl,hz0⟩:=b1c T.fds_72.eq (hval 0 72 v0 rfl rfl);obtain⟨fu0,hf0⟩:=h0;obtain⟨x0,⟨vc0,sf0,e0,R0,F0⟩,G0⟩:=(a9T T.fds_72.eq T.cel_72 (b1h T.fds_24.eq T.cel_24 (a2i T.und_22.eq T.cel_168 rfl (b1f T.fds_168.eq T.cel_168 (a2w T.und_9.eq) (a6n T.und_4.eq) (a2i T.und_166.eq T.cel_170 rfl (b1g T.fds_170.eq T.cel_170 (a2w T.und_9.eq) (a2i T.und_33.eq T.cel_9 rfl (a2w T.und_9.eq)) (a4a T.und_3.eq)))))) (b1e T.fds_70.eq T.cel_70 T.und_68.eq T.und_3.eq)) enc W 0 _ true fu0 _ _ hf0;obtain rfl:cs0=#[vc0,ci x0.dam.op,ci x0.dam.n,sf0]:=Array.toList_inj.1 e0;obtain⟨s1,n1,c1,rfl⟩:=okWide_slice T.und_25.eq (hval 1 25 v1 rfl rfl);obtain⟨fu1,hf1⟩:=h1;obtain⟨l1,⟨u1,e1,R1⟩,G1⟩:=(a2i T.und_25.eq T.cel_64 rfl (b3J T.fds_64.eq T.cel_64 (a2i T.und_62.eq T.cel_96 rfl (b3H T.fds_96.eq T.cel_96 (a4a T.und_3.eq) (a2w T.und_9.eq) (b3K T.fds_94.eq T.cel_94 (b3I T.fds_44.eq T.cel_44 (a4a T.und_3.eq))))) (a6n T.und_4.eq))) enc W 0 _ true fu1 _ _ hf1
 cases e1
 obtain⟨a2,rfl,rfl,rfl,w2⟩:=open_string T.und_9.eq (hval 2 9 v2 rfl rfl) h2;obtain⟨a3,rfl,rfl,rfl,w3⟩:=open_string T.und_9.eq (hval 3 9 v3 rfl rfl) h3;obtain⟨a4,rfl,rfl,rfl,w4⟩:=open_int T.und_3.eq (hval 4 3 v4 rfl rfl) h4;exact b3r (s:=Rows.boundSureSpec) Tryz.call11 (c3F (Iw W) vc0 x0.kinds R0 G0.1 x0.dam sf0 F0 G0.2 _ l1 R1 G1 a2 w2 a3 w3 a4 w4) hW' (by kernel_rfl) (by kernel_rfl) rfl T.und_4.eq rfl rfl
end lawBoundSure
end Go.Proofs.YtdapmfkbpnjkmaaGreat
