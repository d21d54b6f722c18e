
import Derived.Test.YtgmkjpafapgccaaGreatZTsf
namespace Go.Proofs.YtgmkjpafapgccaaGreat
open Go Go.Sx Tryz
set_option linter.all false
set_option maxRecDepth 20000
set_option maxHeartbeats 4000000
theorem T.eqg_157:prog.eqGuardType prog.depth 157=false:=by kernel_rfl
instance:Has (a1k prog 159 0) (0,true,4):=hk
instance:Has (a1k prog 159 1) (4,true,6):=hk
instance:Has (a1k prog 159 2) (10,false,1):=hk
instance:Has (a1k prog 159 3) (11,false,1):=hk
instance:Has (a1k prog 159 4) (12,false,1):=hk
instance:Has (a1k prog 48 1) (1,true,3):=hk
instance:Has (a1k prog 48 2) (4,false,1):=hk
instance:Has (a1k prog 48 3) (5,false,1):=hk
instance:Has (plK prog 159) [(0,4),(4,6),(10,1),(11,1),(12,1)]:=hk
instance:Has (tyK prog 159) (true,13):=hk
instance:Has (tyK prog 271) (false,1):=hk
instance:Has (prog.underlying 162) (.map 3 160):=hk
instance:Has (a1o prog 159) [.slice none 0 0,.int .i64 0,.int .i64 0,.slice none 0 0,.slice none 0 0,.slice none 0 0,.slice none 0 0,.slice none 0 0,.slice none 0 0,.slice none 0 0,.slice none 0 0,.string ⟨#[]⟩,.int .i64 0]:=hk
instance:Has (a1o prog 303) [.nilFunc]:=hk
instance:Has (zvK prog 160) (.nilFunc):=hk
theorem d3O (I:IMap) (v:Value) (l:List Int) (hv:RdS I v l) (hl:l.length≤1000000) :
    FnX prog 232 #[v] I [] (fun u r=>r = .row u 3 1 l.length (a2p l)):=by
 have hv0:=hv;obtain⟨A,c,rfl,hA,hc,hm⟩:=hv;refine enter func232 call232 rfl ntmps232 rfl fun w0=>?_;refine go 9 ?_;refine o_v rfl (a9K he rfl) ?_;refine gC 2 (fun h4 p4=>?_) fun h4 p4=>?_
 ·obtain rfl:l=[]:=List.eq_nil_of_length_eq_zero (by rcases Nat.eq_zero_or_pos l.length with h|h;exact h;obtain⟨_,_,e,_⟩:=hA h;subst e;cases h4);refine a0E 3 1 ?_;refine go 8 ?_;exact q_x rfl
 ·refine go 6 fun v5=>?_
  refine go 2 ?_;refine a2q (hv0) rfl he he rfl rfl rfl rfl oM oM rfl fun v7 x7 f7=>?_;refine go 5 ?_;refine a9J (ys:=x7) rfl ?_;rw[Nat.zero_add,c2l f7];exact q_x rfl
theorem b4j (I:IMap) (vc:Value) (c:List Kind) (hvc:RdS I vc c) (hsc:SmC c) (f:Fm) (sf:Value) (v0 v1 v2 v3 v4 v5:Value) (vn:ByteArray) (day:Int) (A:Option Addr) (c0:Nat) (l:List Rep) (hv:RdS I (.slice A l.length c0) l) (hl:l.length≤25) (hsl:∀r∈l,∀e∈r.options,SmE e) {σ:Type} (R:σ→Res) (E:σ→List Int→Bool×σ) (F:FuncId) (cs:List Value) (hE:∀J,ILe I J→∀s w t,RdS J w t→t.length=l.length→FnG prog F ([w]++cs).toArray J (R s) fun u J2 r=>u = .bool (E s t).1∧r=R (E s t).2) (gn gq g7 g5 g11 gc:Nat) (kq:ICells I gq 0 [vc,ci f.op,ci f.n,sf,v0,v1,v2,v3,v4,v5,.slice A l.length c0,.string vn,.int .i64 (day)]) (k7:ICells I g7 0 [.slice (some ⟨gc,0,none⟩) l.length l.length]) (k5:ICells I g5 0 [.func (.func F) #[] cs.toArray]) (k11:ICells I g11 0 [.func (.func 231) #[] #[.pointer (some ⟨gn,0,none⟩),.pointer (some ⟨gq,0,none⟩),.pointer (some ⟨g7,0,none⟩),.pointer (some ⟨g5,0,none⟩),.pointer (some ⟨g11,0,none⟩)]]) (N:Nat) (ih:∀J,ILe I J→∀x,cntN x≤N→∀vs,FmRd J vs x→∀ch,Opn l ch→∀n s,0≤n→n≤4096→FnH prog 231 #[.agg vs.toArray,.pointer (some ⟨gn,0,none⟩),.pointer (some ⟨gq,0,none⟩),.pointer (some ⟨g7,0,none⟩),.pointer (some ⟨g5,0,none⟩),.pointer (some ⟨g11,0,none⟩)] J [.blk gc 3 (a2p ch),.blk gn 3 [.int .i64 (n)],R s] (fun u J H'=>∃b ch2 n2 s2,u = .bool b∧H'=[.blk gc 3 (a2p ch2),.blk gn 3 [.int .i64 (n2)],R s2]∧(b=true→ch2=ch∧visF c l E x ch n s=some (n2,s2)∧0≤n2∧n2≤4096)∧(b=false→visF c l E x ch n s=none))) (x:Fm) (hN:cntN x≤N+1) (vs:List Value) (hx:FmRd I vs x) (ch:List Int) (ho:Opn l ch) (n:Int) (s:σ) (hn0:0≤n) (hn1:n≤4096) :
    FnH prog 231 #[.agg vs.toArray,.pointer (some ⟨gn,0,none⟩),.pointer (some ⟨gq,0,none⟩),.pointer (some ⟨g7,0,none⟩),.pointer (some ⟨g5,0,none⟩),.pointer (some ⟨g11,0,none⟩)] I [.blk gc 3 (a2p ch),.blk gn 3 [.int .i64 (n)],R s] (fun u J H'=>∃b ch2 n2 s2,u = .bool b∧H'=[.blk gc 3 (a2p ch2),.blk gn 3 [.int .i64 (n2)],R s2]∧(b=true→ch2=ch∧visF c l E x ch n s=some (n2,s2)∧0≤n2∧n2≤4096)∧(b=false→visF c l E x ch n s=none)):=by
 have hcl:ch.length=l.length:=ho.len;obtain⟨sk,rfl,hk⟩:=a2k hx;obtain⟨K0,kc,rfl,hK,hkc,hkm⟩:=id hk;obtain⟨_,_,e9,hAl,_,_⟩:=id hv
 cases e9
 refine enter func231 call231 rfl ntmps231 rfl fun w0=>?_;refine go 4 fun g6=>?_
 refine go 9 ?_;refine a0d ?_;refine go 5 ?_;refine a0b ?_;refine a0A fun Ig6 jg6 cg6=>?_
 try have hvc:=hvc.le jg6
 try have hv:=hv.le jg6
 try have hAl:=hAl.le jg6
 try have hK:=hK.le jg6
 try have kq:=kq.le jg6
 try have k7:=k7.le jg6
 try have k5:=k5.le jg6
 try have k11:=k11.le jg6
 try have cg6:=cg6.le jg6
 have hE:=fun J h=>hE J (ILe.trans jg6 h)
 have ih:=fun J h=>ih J (ILe.trans jg6 h)
 refine gC 4 (fun h14 p14=>?_) fun h14 p14=>?_
 ·refine go 8 ?_;refine a0d ?_;refine a0b ?_;refine a0d ?_;exact a2g (fun _ m=>m) ⟨false,_,_,_,rfl,rfl,(fun h=>by cases h),fun _=>d2X oM⟩
 ·have h0:¬n+1>4096:=oM;refine go 4 ?_;refine a1V (I':=Ig6) (L':=[(1,.pointer (some ⟨gn,0,none⟩)),(2,.pointer (some ⟨gq,0,none⟩)),(3,.pointer (some ⟨g7,0,none⟩)),(4,.pointer (some ⟨g5,0,none⟩)),(5,.pointer (some ⟨g11,0,none⟩)),(6,.pointer (some ⟨g6,0,none⟩)),(28,.bool (a7A x.op x.n x.kids.length))]) (H':=[.blk gc 3 (a2p ch),.blk gn 3 [.int .i64 (n+1)],R s]) ?_ ?_
  ·refine go 2 ?_;refine o_v rfl (a0v he rfl (cg6 0 _ rfl)) ?_;refine gS 2 18 (fun h18 p18=>?_) fun h18 p18=>?_
   ·refine go 1 ?_;refine a0z (a0n rfl rfl h18 (a0q rfl (a0v he rfl (cg6 1 _ rfl)) ?_));refine gS 2 22 (fun h22 p22=>?_) fun h22 p22=>?_
    ·refine go 8 ?_;refine a0d ?_;refine a0b ?_;refine a0d ?_;exact a0r ⟨rfl,rfl,rfl,rfl,rfl,rfl,(bB (by simp only[a7A,h14,h18,h22,bS])),trivial⟩ rfl rfl
    ·refine go 1 ?_;refine a0z (a0n rfl rfl h22 (a0q rfl (a0v he rfl (cg6 2 _ rfl)) ?_));refine go 6 ?_;refine a0d ?_;refine a0b ?_;refine a0d ?_;exact a0r ⟨rfl,rfl,rfl,rfl,rfl,rfl,(bB (by simp only[a7A,h14,h18,h22,bS])),trivial⟩ rfl rfl
   ·refine go 12 ?_;refine a0d ?_;refine a0b ?_;refine a0d ?_;exact a0r ⟨rfl,rfl,rfl,rfl,rfl,rfl,(bB (by simp only[a7A,h14,h18,bS])),trivial⟩ rfl rfl
  ·refine gC 0 (fun h28 p28=>?_) fun h28 p28=>?_
   ·refine go 8 ?_;exact a2g (fun _ m=>m) ⟨false,_,_,_,rfl,rfl,(fun h=>by cases h),fun _=>d2Y h0 h28⟩
   ·have hlb:a7A x.op x.n x.kids.length=false:=h28;refine go 6 ?_;refine o_v rfl (a0v he rfl (cg6 0 _ rfl)) ?_;refine gC 9 (fun h31 p31=>?_) fun h31 p31=>?_
    ·refine go 4 ?_;refine o_v rfl (a0S he rfl (kq.sub 0 1) rfl) ?_;refine go 1 ?_;refine o_v rfl (a0v he rfl (kq 10 _ rfl)) ?_;refine o_v rfl (a0v he rfl (k7 0 _ rfl)) ?_;refine go 1 ?_;refine c3e m0 (fun I2 hI hC=>c2u I2 vc c (hvc.le hI) hsc _ l (hv.le hI) oM hsl _ ch (a5g hC hcl oM)) rfl rfl ?_;refine go 7 ?_;exact a2g (fun _ m=>m) ⟨_,ch,n+1,s,rfl,rfl,(fun h=>⟨rfl,by rw[c0S h0 hlb p31,if_pos h],oM,oM⟩),fun h=>by rw[c0S h0 hlb p31,if_neg (by rw[h];decide)]⟩
    ·refine gC 6 (fun h40 p40=>?_) fun h40 p40=>?_
     ·refine go 1 ?_;refine a0d ?_;refine a1P fun hE10 hf10=>?_;refine ds1 ?_;refine a0F 0 rfl rfl (by kernel_rfl) rfl (.cons _ (.refl _)) rfl (a0v he rfl (k7 0 _ rfl)) ?_;refine dH 1 0 ?_;refine c3e m1 (fun I2 hI hC=>(a5T I2 _ ch (a5g hC hcl oM) (-1)).mono fun _ _ _ _ h=>⟨h.1,h.2.2⟩) rfl rfl ?_;refine dG 2 2 ?_;refine gS 0 45 (fun h45 p45=>?_) fun h45 p45=>?_
      ·refine d_t 4 rfl rfl (by kernel_rfl) rfl (fun _ m=>m.keeps (.cons _ (.refl _))) (a1O rfl rfl h45 (a0v he rfl (k5 0 _ rfl))) ?_;refine d_t 5 rfl rfl (by kernel_rfl) rfl (fun _ m=>m.keeps (.cons _ (.refl _))) (a1O rfl rfl h45 (a0v he rfl (k7 0 _ rfl))) ?_;refine dH 6 0 ?_;refine a0n rfl rfl h45 (d1v m1 (fun I2 hI hC=>d3O I2 _ ch (a5g hC hcl oM) oM) rfl rfl (fun v48 s48 q48=>?_));obtain rfl:=q48;refine a0i (l:=ch) rfl rfl (a6u _) fun I48 j48 R48=>?_
       try have hvc:=hvc.le j48
       try have hv:=hv.le j48
       try have hAl:=hAl.le j48
       try have hK:=hK.le j48
       try have kq:=kq.le j48
       try have k7:=k7.le j48
       try have k5:=k5.le j48
       try have k11:=k11.le j48
       try have cg6:=cg6.le j48
       have hE:=fun J h=>hE J (ILe.trans j48 h)
       have ih:=fun J h=>ih J (ILe.trans j48 h)
       refine dH 7 0 ?_;refine a0n rfl rfl h45 (a1m (hE _ (ILe.refl _) s _ ch R48 hcl) rfl rfl (fun v49 I49 s49 j49 q49=>?_))
       try have hvc:=hvc.le j49
       try have hv:=hv.le j49
       try have hAl:=hAl.le j49
       try have hK:=hK.le j49
       try have kq:=kq.le j49
       try have k7:=k7.le j49
       try have k5:=k5.le j49
       try have k11:=k11.le j49
       try have cg6:=cg6.le j49
       have hE:=fun J h=>hE J (ILe.trans j49 h)
       have ih:=fun J h=>ih J (ILe.trans j49 h)
       obtain⟨rfl,rfl⟩:=q49;refine dG 8 2 ?_;refine go 6 ?_;refine a0d ?_;refine a0d ?_;exact a2g (fun _ m=>m) ⟨_,ch,n+1,(E s ch).2,rfl,rfl,(fun h=>⟨rfl,by rw[b7o h0 hlb p40,if_neg (by simpa using h45),if_pos h],oM,oM⟩),fun h=>by rw[b7o h0 hlb p40,if_neg (by simpa using h45),if_neg (by rw[h];decide)]⟩
      ·refine dG 4 6 ?_;refine go 6 ?_;refine a0d ?_;refine a0d ?_;exact a2g (fun _ m=>m) ⟨false,_,_,_,rfl,rfl,(fun h=>by cases h),fun _=>by rw[b7o h0 hlb p40,if_pos (by simpa using h45)]⟩
     ·refine gC 6 (fun h51 p51=>?_) fun h51 p51=>?_
      ·refine go 3 ?_;refine o_v rfl (a0v he rfl (cg6 1 _ rfl)) ?_;refine go 5 ?_;refine a1V (I':=Ig6) (L':=[(1,.pointer (some ⟨gn,0,none⟩)),(2,.pointer (some ⟨gq,0,none⟩)),(3,.pointer (some ⟨g7,0,none⟩)),(4,.pointer (some ⟨g5,0,none⟩)),(5,.pointer (some ⟨g11,0,none⟩)),(6,.pointer (some ⟨g6,0,none⟩)),(8,.int .i64 (x.n)),(83,.bool (a8M l ch x.n x.kids.length))]) (H':=[.blk gc 3 (a2p ch),.blk gn 3 [.int .i64 (n+1)],R s]) ?_ ?_
       ·refine go 1 ?_;refine dG 0 3 ?_;refine gS 0 57 (fun h57 p57=>?_) fun h57 p57=>?_
        ·refine dG 3 26 ?_;refine go 2 ?_;exact a0r ⟨rfl,rfl,rfl,rfl,rfl,rfl,rfl,(bB (by simp only[a8M,h28,h31,h40,h51,h57,bS])),trivial⟩ rfl rfl
        ·refine dG 3 2 ?_;refine d_t 5 rfl rfl (by kernel_rfl) rfl (fun _ m=>m.keeps (.refl _)) (a1O rfl rfl h57 (a0v he rfl (kq 10 _ rfl))) ?_;refine dG 6 1 ?_;refine d_t 7 rfl rfl (by kernel_rfl) rfl (fun _ m=>m.keeps (.refl _)) (a1O rfl rfl h57 (OV.cast (u:=.int .i64 ((l.length:Nat):Int)) (a8h rfl rfl) (congrArg (Value.int .i64) (if_neg oM)))) ?_;refine dG 8 3 ?_;refine gS 0 65 (fun h65 p65=>?_) fun h65 p65=>?_
         ·refine dG 11 18 ?_;refine go 2 ?_;exact a0r ⟨rfl,rfl,rfl,rfl,rfl,rfl,rfl,(bB (by simp only[a8M,h28,h31,h40,h51,h57,h65,bS])),trivial⟩ rfl rfl
         ·refine d_t 11 rfl rfl (by kernel_rfl) rfl (fun _ m=>m.keeps (.refl _)) (a1O rfl rfl h65 (a0v he rfl (k7 0 _ rfl))) ?_;refine dG 12 1 ?_;have hnl:x.n.toNat<l.length:=oM;refine d_t 13 rfl rfl (by kernel_rfl) rfl (fun _ m=>m.keeps (.refl _)) (a1O rfl rfl h65 (a0l he rfl rfl rfl (x.n.toNat) oM oM)) ?_;refine d_t 14 rfl rfl (by kernel_rfl) rfl (fun _ m=>m.keeps (.refl _)) (a1O rfl rfl h65 (OV.cast (u:=.int .i64 (ch.getD x.n.toNat 0)) (b1m m0 he rfl (d6X _ (c6q oM))) (congrArg (Value.int .i64) (b7c oM).symm))) ?_;refine dG 15 3 ?_;refine gS 0 72 (fun h72 p72=>?_) fun h72 p72=>?_
          ·refine dG 18 11 ?_;refine go 2 ?_;exact a0r ⟨rfl,rfl,rfl,rfl,rfl,rfl,rfl,(bB (by simp only[a8M,h28,h31,h40,h51,h57,h65,h72,bS])),trivial⟩ rfl rfl
          ·refine dG 18 1 ?_;refine d_t 19 rfl rfl (by kernel_rfl) rfl (fun _ m=>m.keeps (.refl _)) (a1O rfl rfl h72 (a0v he rfl (cg6 2 _ rfl))) ?_;refine dG 20 2 ?_;refine d_t 22 rfl rfl (by kernel_rfl) rfl (fun _ m=>m.keeps (.refl _)) (a1O rfl rfl h72 (a0v he rfl (kq 10 _ rfl))) ?_;refine dG 23 1 ?_;obtain⟨b79,o79,w79,e79,c79,r79⟩:=RdA.at_ hAl (i:=x.n.toNat) hnl;obtain⟨q79,rfl,S79,d79,rfl,hS79,hd79,hm79⟩:=r79;refine d_t 24 rfl rfl (by kernel_rfl) rfl (fun _ m=>m.keeps (.refl _)) (a1O rfl rfl h72 (a0l he rfl rfl e79 (x.n.toNat) oM hnl)) ?_;refine dH 25 1 ?_;refine a0n rfl rfl h72 (a0y (a3I _ l[x.n.toNat] S79 d79 ⟨_,_,rfl,hS79,hd79,hm79⟩ (hsl _ (List.getElem_mem hnl))) rfl rfl ?_);refine go 1 ?_;refine d_t 27 rfl rfl (by kernel_rfl) rfl (fun _ m=>m.keeps (.refl _)) (a1O rfl rfl h72 (OV.cast (u:=.bool (!decide ((x.kids.length:Int)=chs (l.getD x.n.toNat ⟨[],false⟩)))) (b7n rfl rfl) (by rw[a5E hnl]))) ?_;refine dG 28 1 ?_;refine go 2 ?_;exact a0r ⟨rfl,rfl,rfl,rfl,rfl,rfl,rfl,(bB (by simp only[a8M,h28,h31,h40,h51,h57,h65,h72,bS])),trivial⟩ rfl rfl
       ·refine gC 0 (fun h83 p83=>?_) fun h83 p83=>?_
        ·refine go 10 ?_;exact a2g (fun _ m=>m) ⟨false,_,_,_,rfl,rfl,(fun h=>by cases h),fun _=>by rw[c4V h0 hlb p51,if_pos h83]⟩
        ·obtain⟨a,hxa,hal,hac,hneg,hkl⟩:=c4i h83 hcl;have hm1:=(ho.neg a hal hac hneg).1;have hc5:=a6m l[a];have hvis:visF c l E x ch n s=visL c l E x.kids a 0 ch (n+1) s:=by rw[c4V h0 hlb p51,h83,hxa];rfl
         rw[hxa];refine go 6 ?_;refine o_v rfl (a0v he rfl (cg6 2 _ rfl)) ?_;refine go 5 ?_
         refine a5t ((0:Nat)) (ch[a]) (n+1) (s) (Ig6) (fun k z n2 s2 J=>J)
          (fun k z n2 s2 J=>[(1,.pointer (some ⟨gn,0,none⟩)),(2,.pointer (some ⟨gq,0,none⟩)),(3,.pointer (some ⟨g7,0,none⟩)),(4,.pointer (some ⟨g5,0,none⟩)),(5,.pointer (some ⟨g11,0,none⟩)),(6,.pointer (some ⟨g6,0,none⟩)),(8,.int .i64 ((a:Nat):Int)),(85,.slice K0 x.kids.length kc),(86,.int .i64 ((x.kids.length:Nat):Int)),(87,.int .i64 ((k:Nat):Int))])
          (fun k z n2 s2 J=>[.blk gc 3 (a2p (ch.set a z)),.blk gn 3 [.int .i64 (n2)],R s2])
          (fun k z n2 s2 J=>k≤x.kids.length∧ILe Ig6 J∧0≤n2∧n2≤4096∧visL c l E x.kids a 0 ch (n+1) s=visL c l E (x.kids.drop k) a k ch n2 s2)
          (fun k z n2 s2 J=>x.kids.length-k) ⟨Nat.zero_le _,ILe.refl _,oM,oM,rfl⟩ rfl sb (by rw[List.set_getElem_self]) ?_
         intro k z n2 s2 J ⟨hk2,hJ,hn3,hn4,hq⟩;have hvc:=hvc.le hJ;have hv:=hv.le hJ;have hAl:=hAl.le hJ;have hK:=hK.le hJ;have kq:=kq.le hJ;have k7:=k7.le hJ;have k5:=k5.le hJ;have k11:=k11.le hJ;have cg6:=cg6.le hJ;have hE:=fun J h=>hE J (ILe.trans hJ h)
         have ih:=fun J h=>ih J (ILe.trans hJ h)
         refine gC 6 (fun h88 p88=>?_) fun h88 p88=>?_
         ·have hlt:k<x.kids.length:=oM;refine go 7 ?_;obtain⟨b90,o90,w90,e90,c90,r90⟩:=RdA.at_ hK (i:=k) hlt;refine go 1 ?_;refine o_v rfl (a0S he rfl c90 (Enc.len r90)) ?_;refine go 2 fun g10=>?_
          refine go 2 ?_;refine a0Y _ he rfl rfl rfl (Enc.len (α:=Fm) r90) rfl (Enc.one (α:=Fm) r90) ?_;refine go 4 ?_;refine o_v rfl (a0v he rfl (k7 0 _ rfl)) ?_;refine go 2 ?_;refine o_v rfl (a0l he rfl rfl rfl (a) oM oM) ?_;refine go 1 ?_;refine a0b ?_;refine a8C he rfl rfl rfl (by rw[a5Y,Nat.blt_eq];simp only[List.length_set];omega) ?_;refine a3S (a2p (ch.set a ((k:Nat):Int))) (by rw[Nat.zero_add,Nat.mul_one];show (a2p _).set _ (ci _)=_;rw[a5Z,List.set_set]) ?_;refine go 4 ?_;refine o_v rfl (a0v he rfl (k11 0 _ rfl)) ?_;refine o_v rfl (a2N m1 he rfl (Enc.len (α:=Fm) r90)) ?_;refine go 1 ?_;refine a0u ?_;refine a0u ?_;refine a0d ?_;refine a2H (Hc:=[_,_,_]) (ih J (ILe.refl _) x.kids[k] (by have:=a4e (f:=x) (List.getElem_mem hlt);omega) _ r90 _ (ho.set hal (k:=((k:Nat):Int)) oM oM) n2 s2 hn3 hn4) rfl rfl fun u98 I98 H98 j98 q98=>?_;obtain⟨b98,ch98,n98,s98,rfl,rfl,hbt,hbf⟩:=q98;refine a9I ?_
          try have hvc:=hvc.le j98
          try have hv:=hv.le j98
          try have hAl:=hAl.le j98
          try have hK:=hK.le j98
          try have kq:=kq.le j98
          try have k7:=k7.le j98
          try have k5:=k5.le j98
          try have k11:=k11.le j98
          try have cg6:=cg6.le j98
          have hE:=fun J h=>hE J (ILe.trans j98 h)
          have ih:=fun J h=>ih J (ILe.trans j98 h)
          refine gC 3 (fun h99 p99=>?_) fun h99 p99=>?_
          ·have hb:b98=false:=by simpa using h99
           refine go 14 ?_;refine a0u ?_;refine a0a ?_;exact a2g (fun _ m=>m) ⟨false,_,_,_,rfl,rfl,(fun h=>by cases h),fun _=>by rw[hvis,hq,c4U hlt (hbf hb)]⟩
          ·have hb:b98=true:=by simpa using h99
           obtain⟨rfl,hv98,hn5,hn6⟩:=hbt hb;refine go 8 ?_;refine a0u ?_;refine a0a ?_;exact a2Y (k+1) (((k:Nat):Int)) (n98) (s98) (I98) ⟨oM,hJ.trans j98,hn5,hn6,by rw[hq,b5H hlt hv98]⟩ oM rfl sb rfl
         ·refine go 7 ?_;refine o_v rfl (a0v he rfl (k7 0 _ rfl)) ?_;refine go 1 ?_;refine o_v rfl (a0l he rfl rfl rfl (a) oM oM) ?_;refine go 1 ?_;refine a8C he rfl rfl rfl (by rw[a5Y,Nat.blt_eq];simp only[List.length_set];omega) ?_;refine a3S (a2p ch) (by rw[Nat.zero_add,Nat.mul_one];show (a2p _).set _ (ci _)=_;rw[a5Z,List.set_set];exact congrArg a2p (by rw[←hm1];exact List.set_getElem_self _)) ?_;refine go 11 ?_;exact a2g (fun _ m=>m) ⟨true,_,_,_,rfl,rfl,(fun _=>⟨rfl,by rw[hvis,hq,b9l oM],hn3,hn4⟩),fun h=>by cases h⟩
      ·refine go 10 ?_;exact a2g (fun _ m=>m) ⟨false,_,_,_,rfl,rfl,(fun h=>by cases h),fun _=>d3a h0 hlb p31 p40 p51⟩
theorem c5C (I:IMap) (vc:Value) (c:List Kind) (hvc:RdS I vc c) (hsc:SmC c) (f:Fm) (sf:Value) (v0 v1 v2 v3 v4 v5:Value) (vn:ByteArray) (day:Int) (A:Option Addr) (c0:Nat) (l:List Rep) (hv:RdS I (.slice A l.length c0) l) (hl:l.length≤25) (hsl:∀r∈l,∀e∈r.options,SmE e) {σ:Type} (R:σ→Res) (E:σ→List Int→Bool×σ) (F:FuncId) (cs:List Value) (hE:∀J,ILe I J→∀s w t,RdS J w t→t.length=l.length→FnG prog F ([w]++cs).toArray J (R s) fun u J2 r=>u = .bool (E s t).1∧r=R (E s t).2) (gn gq g7 g5 g11 gc:Nat) (kq:ICells I gq 0 [vc,ci f.op,ci f.n,sf,v0,v1,v2,v3,v4,v5,.slice A l.length c0,.string vn,.int .i64 (day)]) (k7:ICells I g7 0 [.slice (some ⟨gc,0,none⟩) l.length l.length]) (k5:ICells I g5 0 [.func (.func F) #[] cs.toArray]) (k11:ICells I g11 0 [.func (.func 231) #[] #[.pointer (some ⟨gn,0,none⟩),.pointer (some ⟨gq,0,none⟩),.pointer (some ⟨g7,0,none⟩),.pointer (some ⟨g5,0,none⟩),.pointer (some ⟨g11,0,none⟩)]]) (x:Fm) (vs:List Value) (hx:FmRd I vs x) (ch:List Int) (ho:Opn l ch) (n:Int) (s:σ) (hn0:0≤n) (hn1:n≤4096) :
  FnH prog 231 #[.agg vs.toArray,.pointer (some ⟨gn,0,none⟩),.pointer (some ⟨gq,0,none⟩),.pointer (some ⟨g7,0,none⟩),.pointer (some ⟨g5,0,none⟩),.pointer (some ⟨g11,0,none⟩)] I [.blk gc 3 (a2p ch),.blk gn 3 [.int .i64 (n)],R s] (fun u J H'=>∃b ch2 n2 s2,u = .bool b∧H'=[.blk gc 3 (a2p ch2),.blk gn 3 [.int .i64 (n2)],R s2]∧(b=true→ch2=ch∧visF c l E x ch n s=some (n2,s2)∧0≤n2∧n2≤4096)∧(b=false→visF c l E x ch n s=none)):=by
 have key:∀N J,ILe I J→∀x,cntN x≤N→∀vs,FmRd J vs x→∀ch,Opn l ch→∀n s,0≤n→n≤4096→FnH prog 231 #[.agg vs.toArray,.pointer (some ⟨gn,0,none⟩),.pointer (some ⟨gq,0,none⟩),.pointer (some ⟨g7,0,none⟩),.pointer (some ⟨g5,0,none⟩),.pointer (some ⟨g11,0,none⟩)] J [.blk gc 3 (a2p ch),.blk gn 3 [.int .i64 (n)],R s] (fun u J H'=>∃b ch2 n2 s2,u = .bool b∧H'=[.blk gc 3 (a2p ch2),.blk gn 3 [.int .i64 (n2)],R s2]∧(b=true→ch2=ch∧visF c l E x ch n s=some (n2,s2)∧0≤n2∧n2≤4096)∧(b=false→visF c l E x ch n s=none)):=by
  intro N
  induction N with
  |zero=>intro J _ x h;cases x;simp[cntN]at h
  |succ N ih=>exact fun J hJ x hN vs hx ch ho n s h0 h1=>b4j J vc c (hvc.le hJ) hsc f sf v0 v1 v2 v3 v4 v5 vn day A c0 l (hv.le hJ) hl hsl R E F cs (fun K hK=>hE K (hJ.trans hK)) gn gq g7 g5 g11 gc (kq.le hJ) (k7.le hJ) (k5.le hJ) (k11.le hJ) N (fun K hK x hN=>ih K (hJ.trans hK) x hN) x hN vs hx ch ho n s h0 h1
 exact key (cntN x) I (ILe.refl _) x (Nat.le_refl _) vs hx ch ho n s hn0 hn1
theorem c1A (I:IMap) (vc:Value) (c:List Kind) (hvc:RdS I vc c) (hsc:SmC c) (f:Fm) (sf:Value) (v0 v1 v2 v3 v4 v5:Value) (hqo:[v0,v1,v2,v3,v4,v5].all Value.oneCell'=true) (vn:ByteArray) (day:Int) (A:Option Addr) (c0:Nat) (l:List Rep) (hv:RdS I (.slice A l.length c0) l) (hl:l.length≤25) (hsl:∀r∈l,∀e∈r.options,SmE e) (hva:(l.any fun r=>!a0g r)=false) (x:Fm) (vs:List Value) (hx:FmRd I vs x) {σ:Type} (R:σ→Res) (E:σ→List Int→Bool×σ) (F:FuncId) (cs:List Value) (hE:∀J,ILe I J→∀s w t,RdS J w t→t.length=l.length→FnG prog F ([w]++cs).toArray J (R s) fun u J2 r=>u = .bool (E s t).1∧r=R (E s t).2) (s:σ) :
    FnG prog 154 #[.agg #[vc,ci f.op,ci f.n,sf,v0,v1,v2,v3,v4,v5,.slice A l.length c0,.string vn,.int .i64 (day)],.agg vs.toArray,.func (.func F) #[] cs.toArray] I (R s) (fun u J r'=>∃b s2,u = .bool b∧r'=R s2∧(b=true→∃n,visF c l E x (b4d l) 0 s=some (n,s2))∧(b=false→visF c l E x (b4d l) 0 s=none)):=by
 obtain⟨_,_,e9,hAl,_,_⟩:=id hv
 cases e9
 refine enter func154 call154 rfl ntmps154 rfl fun w0=>?_;refine go 4 fun g3=>?_
 refine go 2 fun g4=>?_
 refine go 2 fun g5=>?_
 refine go 9 ?_;refine a4x he he rfl rfl rfl oM oM rfl fun g15=>?_;refine a3S _ (b0A _) ?_;refine go 2 fun g7=>?_
 refine go 14 ?_;refine a3w ?_;refine a3w ?_;refine a3w ?_;refine a3w ?_;refine a1y ?_;refine a3w ?_
 refine a0x (α:=Nat) (0:Nat) (fun i=>I)
  (fun i=>[(3,.pointer (some ⟨g3,0,none⟩)),(4,.pointer (some ⟨g4,0,none⟩)),(5,.pointer (some ⟨g5,0,none⟩)),(7,.pointer (some ⟨g7,0,none⟩)),(17,.slice A l.length c0),(18,.int .i64 ((l.length:Nat):Int)),(19,.int .i64 ((i:Nat):Int))])
  (fun i=>[.blk g15 3 (a2p (b4e l i)),.blk g7 45 [.slice (some ⟨g15,0,none⟩) l.length l.length],.blk g5 271 [.func (.func F) #[] cs.toArray],.blk g4 44 vs,.blk g3 159 [vc,ci f.op,ci f.n,sf,v0,v1,v2,v3,v4,v5,.slice A l.length c0,.string vn,.int .i64 (day)],R s])
  (fun i=>i≤l.length)
  (fun i=>l.length-i) (Nat.zero_le _) rfl sb rfl ?_
 intro i hi;refine gC 6 (fun h20 p20=>?_) fun h20 p20=>?_
 ·have hlt:i<l.length:=oM;refine go 7 ?_;obtain⟨b22,o22,w22,e22,c22,r22⟩:=RdA.at_ hAl (i:=i) hlt;obtain⟨q22,rfl,S22,d22,rfl,hS22,hd22,hm22⟩:=r22;refine go 4 fun g9=>?_
  refine go 9 ?_;refine cV (a3I _ l[i] S22 d22 ⟨_,_,rfl,hS22,hd22,hm22⟩ (hsl _ (List.getElem_mem hlt))) ?_;refine gC 3 (fun h26 p26=>?_) fun h26 p26=>?_
  ·refine go 3 ?_;refine o_v rfl (a0l he rfl rfl rfl (i) oM oM) ?_;refine go 1 ?_;refine a0b ?_;refine a8C he rfl rfl rfl (by rw[a5Y,b2M oM,Nat.blt_eq];omega) ?_;refine a3S (a2p ((b4e l i).set i (-1))) (by rw[Nat.zero_add,Nat.mul_one];exact a5Z _ _ _) ?_;refine go 8 ?_;refine a0b ?_;refine a0a ?_;exact a0w (i+1) oM oM rfl sb (by rw[b7x hlt (by unfold a8F;rw[decide_eq_false oM];rfl)])
  ·refine go 8 ?_;refine a0a ?_;exact a0w (i+1) oM oM rfl sb (by rw[c1l hlt (by unfold a8F;rw[decide_eq_true (by have:=a5S (a3N hva _ (List.getElem_mem hlt));omega)];rfl)])
 ·obtain rfl:i=l.length:=oM;rw[b7w];refine go 9 fun g10=>?_
  refine go 8 fun g11=>?_
  refine go 4 ?_;refine a0V ?_;refine a0A fun Ig3 jg3 cg3=>?_
  try have hvc:=hvc.le jg3
  try have hv:=hv.le jg3
  try have hAl:=hAl.le jg3
  try have hx:=hx.le jg3
  try have cg3:=cg3.le jg3
  try have cg5:=cg5.le jg3
  try have cg7:=cg7.le jg3
  try have cg11:=cg11.le jg3
  have hE:=fun J h=>hE J (ILe.trans jg3 h)
  refine a1y ?_;refine a0A fun Ig5 jg5 cg5=>?_
  try have hvc:=hvc.le jg5
  try have hv:=hv.le jg5
  try have hAl:=hAl.le jg5
  try have hx:=hx.le jg5
  try have cg3:=cg3.le jg5
  try have cg5:=cg5.le jg5
  try have cg7:=cg7.le jg5
  try have cg11:=cg11.le jg5
  have hE:=fun J h=>hE J (ILe.trans jg5 h)
  refine a0u ?_;refine a0A fun Ig7 jg7 cg7=>?_
  try have hvc:=hvc.le jg7
  try have hv:=hv.le jg7
  try have hAl:=hAl.le jg7
  try have hx:=hx.le jg7
  try have cg3:=cg3.le jg7
  try have cg5:=cg5.le jg7
  try have cg7:=cg7.le jg7
  try have cg11:=cg11.le jg7
  have hE:=fun J h=>hE J (ILe.trans jg7 h)
  refine go 7 ?_;refine a0A fun Ig11 jg11 cg11=>?_
  try have hvc:=hvc.le jg11
  try have hv:=hv.le jg11
  try have hAl:=hAl.le jg11
  try have hx:=hx.le jg11
  try have cg3:=cg3.le jg11
  try have cg5:=cg5.le jg11
  try have cg7:=cg7.le jg11
  try have cg11:=cg11.le jg11
  have hE:=fun J h=>hE J (ILe.trans jg11 h)
  refine o_v rfl (a0v he rfl (cg11 0 _ rfl)) ?_;refine o_v rfl (a2N m2 he rfl (Enc.len (α:=Fm) hx)) ?_;refine go 1 ?_;refine a0u ?_;refine a0b ?_;refine a0d ?_;refine a2H (Hc:=[_,_,_]) (c5C _ vc c hvc hsc f sf v0 v1 v2 v3 v4 v5 vn day A c0 l hv hl hsl R E F cs hE g10 g3 g7 g5 g11 g15 cg3 cg7 cg5 cg11 x vs hx (b4d l) (Opn.beg (a3N hva)) 0 s (Int.le_refl _) oM) rfl rfl fun u34 I34 H34 j34 q34=>?_;obtain⟨b34,ch34,n34,s34,rfl,rfl,hbt,hbf⟩:=q34;refine a9I ?_
  try have hvc:=hvc.le j34
  try have hv:=hv.le j34
  try have hAl:=hAl.le j34
  try have hx:=hx.le j34
  try have cg3:=cg3.le j34
  try have cg5:=cg5.le j34
  try have cg7:=cg7.le j34
  try have cg11:=cg11.le j34
  have hE:=fun J h=>hE J (ILe.trans j34 h)
  refine go 5 ?_;refine a0a ?_;refine a0a ?_;refine a0b ?_;refine a0a ?_;exact q_g ⟨b34,s34,rfl,rfl,(fun h=>⟨n34,(hbt h).2.1⟩),hbf⟩
theorem c1Z (I:IMap) (v:Value) (l:List Flt) (hv:RdS I v l) (v2:Value) (m:List Flt) (hv2:RdS I v2 m) :
    FnV prog 158 #[v,v2] I (.bool (decide (l=m))):=by
 obtain⟨A,c0,rfl,hA,hc,hm⟩:=hv;obtain⟨B,c1,rfl,hB,hc1,hm1⟩:=hv2;refine enter func158 call158 rfl ntmps158 rfl fun w0=>?_;refine gC 15 (fun h10 p10=>?_) fun h10 p10=>?_
 ·refine go 8 ?_;exact q_v (congrArg Value.bool (decide_eq_false (by rintro rfl;revert h10;simp)).symm)
 ·have hlm:l.length=m.length:=by revert h10;simp;omega
  refine go 11 ?_
  refine a0x (α:=Nat) 0 (fun i=>I)
   (fun i=>[(0,.slice A l.length c0),(1,.slice B m.length c1),(12,.int .i64 ((l.length:Nat):Int)),(13,.int .i64 ((i:Nat):Int))])
   (fun i=>[])
   (fun i=>i≤l.length∧l.take i=m.take i)
   (fun i=>l.length-i) ⟨Nat.zero_le _,rfl⟩ rfl sb rfl ?_
  intro i ⟨hi,hn⟩;refine gC 6 (fun h14 p14=>?_) fun h14 p14=>?_
  ·have hlt:i<l.length:=oM;refine go 12 ?_;refine dG 0 2 ?_;obtain⟨b18,o18,w18,e18,c18,r18⟩:=RdA.at_ hA (i:=i) hlt;obtain rfl:=r18;refine dG 2 4 ?_;obtain⟨b22,o22,w22,e22,c22,r22⟩:=RdA.at_ hB (i:=i) oM;obtain rfl:=r22;refine dG 6 2 ?_;refine a0F 8 rfl rfl (by kernel_rfl) rfl .slnil rfl (d2V T.eqg_157 (c1Y l[i] m[i]) rfl rfl) ?_;refine gC 2 (fun h24 p24=>?_) fun h24 p24=>?_
   ·refine go 12 ?_;exact q_v (congrArg Value.bool (d2n hlt oM (by simpa using h24)).symm)
   ·refine go 8 ?_;exact a0w (i+1) ⟨oM,c4e hlt oM hn (by simpa using h24)⟩ oM rfl sb rfl
  ·refine go 12 ?_;exact q_v (congrArg Value.bool (decide_eq_true (c7S hlm oM hn)).symm)
theorem b7C (I:IMap) (vc:Value) (c:List Kind) (hvc:RdS I vc c) (hsc:SmC c) (f:Fm) (sf:Value) (hfm:FmRd I [ci f.op,ci f.n,sf] f) (v0 v1 v2 v3 v4 v5:Value) (b:Bok) (hb:BokRd I v0 v1 v2 v3 v4 v5 b) (hok:OkBok b) (vn:ByteArray) (day:Int) (A:Option Addr) (c0:Nat) (l:List Rep) (hv:RdS I (.slice A l.length c0) l) (hl:l.length≤25) (hsl:∀r∈l,∀e∈r.options,SmE e) (w:Value) (t:List Int) (hw:RdS I w t) :
    FnI prog 156 #[.agg #[vc,ci f.op,ci f.n,sf,v0,v1,v2,v3,v4,v5,.slice A l.length c0,.string vn,.int .i64 (day)],w] I (fun u J=>∃z,u = .tuple #[z,.bool (isF c l t)]∧RdS J z ((ftsF f c b l vn day) t)):=by
 have hQ1:=b0j hvc hfm hb hv vn day;refine enter func156 call156 rfl ntmps156 rfl fun w0=>?_;refine go 4 fun g2=>?_
 refine go 10 ?_;refine a0m (b1f _ _ l hv oM hsl _ t hw) rfl rfl fun v12 I12 j12 q12=>?_
 try have hvc:=hvc.le j12
 try have hfm:=hfm.le j12
 try have hb:=hb.le j12
 try have hv:=hv.le j12
 try have hw:=hw.le j12
 try have hz:=hz.le j12
 try have cg2:=cg2.le j12
 try have q24:=q24.le j12
 try have kq:=kq.le j12
 try have hVd:=hVd.le j12
 obtain⟨z,rfl,hz⟩:=q12;have hpl:=b0W l t;refine go 8 ?_;refine a0A fun Ig2 jg2 cg2=>?_
 try have hvc:=hvc.le jg2
 try have hfm:=hfm.le jg2
 try have hb:=hb.le jg2
 try have hv:=hv.le jg2
 try have hw:=hw.le jg2
 try have hz:=hz.le jg2
 try have cg2:=cg2.le jg2
 try have q24:=q24.le jg2
 try have kq:=kq.le jg2
 try have hVd:=hVd.le jg2
 refine a1P fun hE2 hf2=>?_;refine go 1 ?_;refine dG 0 1 ?_;refine a0F 1 rfl rfl (by kernel_rfl) rfl .slnil rfl (a0S he rfl (cg2.sub 0 4) rfl) ?_;refine dG 2 1 ?_;refine a0F 3 rfl rfl (by kernel_rfl) rfl .slnil rfl (a0S he rfl (cg2.sub 4 6) rfl) ?_;refine dG 4 2 ?_;refine a0F 6 rfl rfl (by kernel_rfl) rfl .slnil rfl (a0v he rfl (cg2 11 _ rfl)) ?_;refine dG 7 1 ?_;refine a0F 8 rfl rfl (by kernel_rfl) rfl .slnil rfl (a0v he rfl (cg2 12 _ rfl)) ?_;refine dG 10 2 ?_;refine a0F 12 rfl rfl (by kernel_rfl) rfl .slnil rfl (a0S he rfl (cg2.sub 0 1) rfl) ?_;refine dG 13 1 ?_;refine a0F 14 rfl rfl (by kernel_rfl) rfl .slnil rfl (a0v he rfl (cg2 10 _ rfl)) ?_;refine dG 15 1 ?_;refine dH 9 0 ?_;refine a0m (d8o _ vc c hvc hsc f sf hfm v0 v1 v2 v3 v4 v5 b hb hok z (a0J l t).1 hz oM (b0X hsl) vn day) rfl rfl fun v24 I24 j24 q24=>?_
 try have hvc:=hvc.le j24
 try have hfm:=hfm.le j24
 try have hb:=hb.le j24
 try have hv:=hv.le j24
 try have hw:=hw.le j24
 try have hz:=hz.le j24
 try have cg2:=cg2.le j24
 try have q24:=q24.le j24
 try have kq:=kq.le j24
 try have hVd:=hVd.le j24
 refine dH 16 0 ?_;refine a0m (d8q _ vc c hvc hsc _ l hv oM hsl _ t hw) rfl rfl fun v31 I31 j31 q31=>?_
 try have hvc:=hvc.le j31
 try have hfm:=hfm.le j31
 try have hb:=hb.le j31
 try have hv:=hv.le j31
 try have hw:=hw.le j31
 try have hz:=hz.le j31
 try have cg2:=cg2.le j31
 try have q24:=q24.le j31
 try have kq:=kq.le j31
 try have hVd:=hVd.le j31
 obtain rfl:=q31;refine dG 17 2 ?_;refine go 4 ?_;exact q_i ⟨_,rfl,q24⟩
theorem d3N (I:IMap) (vc:Value) (c:List Kind) (hvc:RdS I vc c) (hsc:SmC c) (f:Fm) (sf:Value) (hfm:FmRd I [ci f.op,ci f.n,sf] f) (v0 v1 v2 v3 v4 v5:Value) (b:Bok) (hb:BokRd I v0 v1 v2 v3 v4 v5 b) (hok:OkBok b) (vn:ByteArray) (day:Int) (A:Option Addr) (c0:Nat) (l:List Rep) (hv:RdS I (.slice A l.length c0) l) (hl:l.length≤25) (hsl:∀r∈l,∀e∈r.options,SmE e) (w:Value) (t:List Int) (hw:RdS I w t) (gk gq:Nat) (kq:ICells I gq 0 [vc,ci f.op,ci f.n,sf,v0,v1,v2,v3,v4,v5,.slice A l.length c0,.string vn,.int .i64 (day)]) (n:Int) :
    FnG prog 155 #[w,.pointer (some ⟨gk,0,none⟩),.pointer (some ⟨gq,0,none⟩)] I (.blk gk 3 [ci n]) (fun u J r=>u = .bool (c0E c l (ftsF f c b l vn day) n t).1∧r = .blk gk 3 [ci (c0E c l (ftsF f c b l vn day) n t).2]):=by
 refine enter func155 call155 rfl ntmps155 rfl fun w0=>?_;refine go 8 ?_;refine o_v rfl (b2D rfl rfl) ?_;refine go 6 ?_;refine o_v rfl (a0S he rfl kq rfl) ?_;refine go 2 ?_;refine a0m (b7C _ vc c hvc hsc f sf hfm v0 v1 v2 v3 v4 v5 b hb hok vn day A c0 l hv hl hsl w t hw) rfl rfl fun v12 I12 j12 q12=>?_
 try have hvc:=hvc.le j12
 try have hfm:=hfm.le j12
 try have hb:=hb.le j12
 try have hv:=hv.le j12
 try have hw:=hw.le j12
 try have hz:=hz.le j12
 try have cg2:=cg2.le j12
 try have q24:=q24.le j12
 try have kq:=kq.le j12
 try have hVd:=hVd.le j12
 obtain⟨z,rfl,hz⟩:=q12;obtain⟨ZA,zc,rfl,_,_,_⟩:=id hz;refine gS 11 16 (fun h16 p16=>?_) fun h16 p16=>?_
 ·refine go 9 ?_;exact q_g ⟨congrArg Value.bool (by simp only[c0E,h16,bS]),rfl⟩
 ·refine go 9 ?_;exact q_g ⟨congrArg Value.bool (by simp only[c0E,h16,bS]),rfl⟩
theorem d7c (I:IMap) (vc:Value) (c:List Kind) (hvc:RdS I vc c) (hsc:SmC c) (f:Fm) (sf:Value) (hfm:FmRd I [ci f.op,ci f.n,sf] f) (v0 v1 v2 v3 v4 v5:Value) (b:Bok) (hb:BokRd I v0 v1 v2 v3 v4 v5 b) (hok:OkBok b) (vn:ByteArray) (day:Int) (A:Option Addr) (c0:Nat) (l:List Rep) (hv:RdS I (.slice A l.length c0) l) (hl:l.length≤25) (hsl:∀r∈l,∀e∈r.options,SmE e) (hva:(l.any fun r=>!a0g r)=false) (vd:Vdt) (k h u:Value) (hVd:VdRd I k h u vd) :
    FnI prog 74 #[.agg #[vc,ci f.op,ci f.n,sf,v0,v1,v2,v3,v4,v5,.slice A l.length c0,.string vn,.int .i64 (day)],.agg (vd.cs k h u).toArray] I (fun r J=>r = .bool (c7G c l (ftsF f c b l vn day) vd)):=by
 have hQ1:=b0j hvc hfm hb hv vn day;obtain⟨KA,kc,rfl,_,_,_⟩:=id hVd.k;obtain⟨HA,hc,rfl,_,hh1,hh2⟩:=id hVd.h;obtain⟨UA,uc,rfl,_,hf1,hf2⟩:=id hVd.f;refine enter func74 call74 rfl ntmps74 rfl fun w0=>?_;refine go 4 fun g2=>?_
 refine go 2 fun g3=>?_
 refine go 7 fun g5=>?_
 refine go 8 ?_;refine o_v rfl (a1R ([ci vd.proof.op,ci vd.proof.n,.slice KA vd.proof.kids.length kc]) m1 he rfl rfl rfl) ?_;refine a0d ?_;refine a0A fun Ig2 jg2 cg2=>?_
 try have hvc:=hvc.le jg2
 try have hfm:=hfm.le jg2
 try have hb:=hb.le jg2
 try have hv:=hv.le jg2
 try have hw:=hw.le jg2
 try have hz:=hz.le jg2
 try have cg2:=cg2.le jg2
 try have q24:=q24.le jg2
 try have kq:=kq.le jg2
 try have hVd:=hVd.le jg2
 refine go 2 ?_;refine a1m (c1A _ vc c hvc hsc f sf v0 v1 v2 v3 v4 v5 hb.one vn day A c0 l hv hl hsl hva vd.proof _ (a4g hVd.k) (fun n=>.blk g5 3 [ci n]) (c0E c l (ftsF f c b l vn day)) 155 [.pointer (some ⟨g5,0,none⟩),.pointer (some ⟨g2,0,none⟩)] (fun J hJ s w t hw _=>d3N J vc c (hvc.le hJ) hsc f sf (hfm.le hJ) v0 v1 v2 v3 v4 v5 b (hb.le hJ) hok vn day A c0 l (hv.le hJ) hl hsl w t hw g5 g2 (cg2.le hJ) s) 0) rfl rfl fun v11 I11 s11 j11 q11=>?_
 try have hvc:=hvc.le j11
 try have hfm:=hfm.le j11
 try have hb:=hb.le j11
 try have hv:=hv.le j11
 try have hw:=hw.le j11
 try have hz:=hz.le j11
 try have cg2:=cg2.le j11
 try have q24:=q24.le j11
 try have kq:=kq.le j11
 try have hVd:=hVd.le j11
 obtain⟨b11,s11,rfl,rfl,hbt,hbf⟩:=q11;refine gS 7 13 (fun h13 p13=>?_) fun h13 p13=>?_
 ·obtain⟨n11,hv11⟩:=hbt h13;refine gS 4 17 (fun h17 p17=>?_) fun h17 p17=>?_
  ·refine go 6 ?_;refine a0z (a0n rfl rfl h17 (a0q rfl (b2D rfl rfl) ?_));refine a0z (a0n rfl rfl h17 (a0q rfl (OV.cast (u:=.bool (decide (((vd.hist.length:Nat):Int)+((vd.faults.length:Nat):Int)=0))) (c4K rfl rfl) (b5M (Nat.le_trans hh1 hh2) (Nat.le_trans hf1 hf2))) ?_));refine go 6 ?_;exact q_i (congrArg Value.bool (by simp only[c7G,hv11,h13,h17,bS]))
  ·refine go 14 ?_;exact q_i (congrArg Value.bool (by simp only[c7G,hv11,h13,h17,bS]))
 ·have hv11:=hbf h13;refine go 18 ?_;exact q_i (congrArg Value.bool (by simp only[c7G,hv11,h13,bS]))
theorem c9V (I:IMap) (w:Value) :
    FnV prog 157 #[w] I (.bool false):=by
 refine enter func157 call157 rfl ntmps157 rfl fun w0=>?_;refine go 12 ?_;exact q_v rfl
theorem d3M (I:IMap) (vc:Value) (c:List Kind) (hvc:RdS I vc c) (hsc:SmC c) (f:Fm) (sf:Value) (hfm:FmRd I [ci f.op,ci f.n,sf] f) (v0 v1 v2 v3 v4 v5:Value) (b:Bok) (hb:BokRd I v0 v1 v2 v3 v4 v5 b) (hok:OkBok b) (vn:ByteArray) (day:Int) (A:Option Addr) (c0:Nat) (l:List Rep) (hv:RdS I (.slice A l.length c0) l) (hl:l.length≤25) (hsl:∀r∈l,∀e∈r.options,SmE e) (hva:(l.any fun r=>!a0g r)=false) (vd:Vdt) (k h u:Value) (hVd:VdRd I k h u vd) :
    FnI prog 75 #[.agg #[vc,ci f.op,ci f.n,sf,v0,v1,v2,v3,v4,v5,.slice A l.length c0,.string vn,.int .i64 (day)],.agg (vd.cs k h u).toArray] I (fun r J=>r = .bool (c9g c l vd)):=by
 have hQ1:=b0j hvc hfm hb hv vn day;obtain⟨KA,kc,rfl,_,_,_⟩:=id hVd.k;obtain⟨HA,hc,rfl,_,hh1,hh2⟩:=id hVd.h;obtain⟨UA,uc,rfl,_,hf1,hf2⟩:=id hVd.f;refine enter func75 call75 rfl ntmps75 rfl fun w0=>?_;refine go 4 fun g2=>?_
 refine go 2 fun g3=>?_
 refine go 11 ?_;refine o_v rfl (b2D rfl rfl) ?_;refine o_v rfl (OV.cast (u:=.bool (decide (((vd.hist.length:Nat):Int)+((vd.faults.length:Nat):Int)=0))) (c4K rfl rfl) (b5M (Nat.le_trans hh1 hh2) (Nat.le_trans hf1 hf2))) ?_;refine gS 1 13 (fun h13 p13=>?_) fun h13 p13=>?_
 ·refine go 2 ?_;refine a0z (a0n rfl rfl h13 (a0q rfl (a1R ([ci vd.proof.op,ci vd.proof.n,.slice KA vd.proof.kids.length kc]) m0 he rfl rfl rfl) ?_));refine go 1 ?_;refine a0E 0 0 ?_;refine a0n rfl rfl h13 (a1m (c1A _ vc c hvc hsc f sf v0 v1 v2 v3 v4 v5 hb.one vn day A c0 l hv hl hsl hva vd.proof _ (a4g hVd.k) (fun (_:Unit)=>.row (.slice none 0 0) 0 0 0 []) d1q 157 [] (fun J hJ s w t hw _=>FnG.of_V (c9V J w)) ()) rfl rfl (fun v17 I17 r17 j17 q17=>?_));obtain⟨b17,s17,rfl,rfl,hbt,hbf⟩:=q17
  have e17:(visF c l d1q vd.proof (b4d l) 0 ()).isSome=b17:=by
    cases b17 with
    |true=>obtain⟨n,h⟩:=hbt rfl;rw[h];rfl
    |false=>rw[hbf rfl];rfl
  refine go 6 ?_;exact q_i (congrArg Value.bool (by simp only[c9g,e17,h13,bS]))
 ·refine go 10 ?_;exact q_i (congrArg Value.bool (by simp only[c9g,h13,bS]))
theorem c9U (I:IMap) (vc:Value) (c:List Kind) (hvc:RdS I vc c) (hsc:SmC c) (f:Fm) (sf:Value) (hfm:FmRd I [ci f.op,ci f.n,sf] f) (v0 v1 v2 v3 v4 v5:Value) (b:Bok) (hb:BokRd I v0 v1 v2 v3 v4 v5 b) (hok:OkBok b) (vn:ByteArray) (day:Int) (A:Option Addr) (c0:Nat) (l:List Rep) (hv:RdS I (.slice A l.length c0) l) (hl:l.length≤25) (hsl:∀r∈l,∀e∈r.options,SmE e) (hva:(l.any fun r=>!a0g r)=false) (vd:Vdt) (k h u:Value) (hVd:VdRd I k h u vd) :
    FnI prog 76 #[.agg #[vc,ci f.op,ci f.n,sf,v0,v1,v2,v3,v4,v5,.slice A l.length c0,.string vn,.int .i64 (day)],.agg (vd.cs k h u).toArray] I (fun r J=>r = .bool (c0X c l (ftsF f c b l vn day) vd)):=by
 have hQ1:=b0j hvc hfm hb hv vn day;obtain⟨KA,kc,rfl,_,_,_⟩:=id hVd.k;obtain⟨HA,hc,rfl,_,hh1,hh2⟩:=id hVd.h;obtain⟨UA,uc,rfl,_,hf1,hf2⟩:=id hVd.f;refine enter func76 call76 rfl ntmps76 rfl fun w0=>?_;refine go 4 fun g2=>?_
 refine go 2 fun g3=>?_
 refine go 9 ?_;refine a0m (b7C _ vc c hvc hsc f sf hfm v0 v1 v2 v3 v4 v5 b hb hok vn day A c0 l hv hl hsl _ vd.hist hVd.h) rfl rfl fun v11 I11 j11 q11=>?_
 try have hvc:=hvc.le j11
 try have hfm:=hfm.le j11
 try have hb:=hb.le j11
 try have hv:=hv.le j11
 try have hw:=hw.le j11
 try have hz:=hz.le j11
 try have cg2:=cg2.le j11
 try have q24:=q24.le j11
 try have kq:=kq.le j11
 try have hVd:=hVd.le j11
 obtain⟨z,rfl,hz⟩:=q11;obtain⟨ZA,zc,rfl,_,_,_⟩:=id hz;refine gS 11 15 (fun h15 p15=>?_) fun h15 p15=>?_
 ·refine gS 5 20 (fun h20 p20=>?_) fun h20 p20=>?_
  ·refine go 4 ?_;refine a0n rfl rfl h20 (a0y (c1Z _ _ _ hz _ _ hVd.f) rfl rfl ?_);refine gS 2 26 (fun h26 p26=>?_) fun h26 p26=>?_
   ·refine gS 6 32 (fun h32 p32=>?_) fun h32 p32=>?_
    ·refine gS 6 38 (fun h38 p38=>?_) fun h38 p38=>?_
     ·refine go 11 ?_;exact q_i (congrArg Value.bool (by simp only[c0X,h15,h20,h26,h32,h38,bS]))
     ·refine go 11 ?_;exact q_i (congrArg Value.bool (by simp only[c0X,h15,h20,h26,h32,h38,bS]))
    ·refine go 17 ?_;exact q_i (congrArg Value.bool (by simp only[c0X,h15,h20,h26,h32,bS]))
   ·refine go 23 ?_;exact q_i (congrArg Value.bool (by simp only[c0X,h15,h20,h26,bS]))
  ·refine go 29 ?_;exact q_i (congrArg Value.bool (by simp only[c0X,h15,h20,bS]))
 ·refine go 34 ?_;exact q_i (congrArg Value.bool (by simp only[c0X,h15,bS]))
theorem d3L (I:IMap) (vc:Value) (c:List Kind) (hvc:RdS I vc c) (hsc:SmC c) (f:Fm) (sf:Value) (hfm:FmRd I [ci f.op,ci f.n,sf] f) (v0 v1 v2 v3 v4 v5:Value) (b:Bok) (hb:BokRd I v0 v1 v2 v3 v4 v5 b) (hok:OkBok b) (vn:ByteArray) (day:Int) (A:Option Addr) (c0:Nat) (l:List Rep) (hv:RdS I (.slice A l.length c0) l) (hl:l.length≤25) (hsl:∀r∈l,∀e∈r.options,SmE e) (hva:(l.any fun r=>!a0g r)=false) (vd:Vdt) (k h u:Value) (hVd:VdRd I k h u vd):∃(z:Value) (bb:Bool),(a4h (d6z 74 75 76 (.agg #[vc,ci f.op,ci f.n,sf,v0,v1,v2,v3,v4,v5,.slice A l.length c0,.string vn,.int .i64 (day)])) vd.kind).getD .nilFunc=z∧(a4h (d6z 74 75 76 (.agg #[vc,ci f.op,ci f.n,sf,v0,v1,v2,v3,v4,v5,.slice A l.length c0,.string vn,.int .i64 (day)])) vd.kind).isSome=bb∧(bb=false→(b3o c l (ftsF f c b l vn day) vd)=false) ∧
  (bb=true→∃n,z = .func (.func n) #[(.agg #[vc,ci f.op,ci f.n,sf,v0,v1,v2,v3,v4,v5,.slice A l.length c0,.string vn,.int .i64 (day)])] #[]∧FnI prog n #[(.agg #[vc,ci f.op,ci f.n,sf,v0,v1,v2,v3,v4,v5,.slice A l.length c0,.string vn,.int .i64 (day)]),.agg (vd.cs k h u).toArray] I fun r _=>r = .bool (b3o c l (ftsF f c b l vn day) vd)):=by
 refine⟨_,_,rfl,rfl,?_,?_⟩
 ·intro h;rw[b7s]at h
  unfold b3o
  by_cases h1:vd.kind=1
  ·rw[if_pos h1]at h;cases h
  by_cases h3:vd.kind=3
  ·rw[if_neg h1,if_pos h3]at h;cases h
  by_cases h2:vd.kind=2
  ·rw[if_neg h1,if_neg h3,if_pos h2]at h;cases h
  rw[if_neg h1,if_neg h3,if_neg h2]
 ·intro h9;rw[b7s]at h9 ⊢
  unfold b3o
  by_cases h1:vd.kind=1
  ·rw[if_pos h1,if_pos h1];exact⟨_,rfl,d7c _ vc c hvc hsc f sf hfm v0 v1 v2 v3 v4 v5 b hb hok vn day A c0 l hv hl hsl hva vd k h u hVd⟩
  by_cases h3:vd.kind=3
  ·rw[if_neg h1,if_pos h3,if_neg h1,if_pos h3];exact⟨_,rfl,d3M _ vc c hvc hsc f sf hfm v0 v1 v2 v3 v4 v5 b hb hok vn day A c0 l hv hl hsl hva vd k h u hVd⟩
  by_cases h2:vd.kind=2
  ·rw[if_neg h1,if_neg h3,if_pos h2,if_neg h1,if_neg h3,if_pos h2];exact⟨_,rfl,c9U _ vc c hvc hsc f sf hfm v0 v1 v2 v3 v4 v5 b hb hok vn day A c0 l hv hl hsl hva vd k h u hVd⟩
  rw[if_neg h1,if_neg h3,if_neg h2]at h9;cases h9
theorem d7b (I:IMap) (r:Rep) (S:Option Addr) (d:Nat) (hr:RdS I (.slice S r.options.length d) r.options) (hs:∀e∈r.options,SmE e) :
    FnV prog 73 #[.agg (r.cells (.slice S r.options.length d)).toArray] I (.bool (!a0g r)):=by
 refine enter func73 call73 rfl ntmps73 rfl fun w0=>?_;refine go 4 fun g1=>?_
 refine go 7 ?_;refine cV (a7R _ r S d hr hs) ?_;refine go 6 ?_;exact q_v rfl
theorem a9r (I:IMap) (vc:Value) (c:List Kind) (hvc:RdS I vc c) (hsc:SmC c) (f:Fm) (sf:Value) (hfm:FmRd I [ci f.op,ci f.n,sf] f) (v:Value) (l:List Rep) (hv:RdS I v l) (hl:l.length≤25) (hsl:∀r∈l,∀e∈r.options,SmE e) (R:Nat→Nat) (hRt:Rts l R) (v0 v1 v2 v3 v4 v5:Value) (b:Bok) (hb:BokRd I v0 v1 v2 v3 v4 v5 b) (hok:OkBok b) (vn:ByteArray) (day:Int) (vd:Vdt) (k h u:Value) (hVd:VdRd I k h u vd) :
    FnI prog 23 #[.agg #[vc,ci f.op,ci f.n,sf],.agg #[v0,v1,v2,v3,v4,v5],v,.string vn,.int .i64 (day),.agg (vd.cs k h u).toArray] I (fun r J=>r = .bool (accF f c b l (a0D l R vn) vn day vd)):=by
 have hv0:=hv;obtain⟨A,c0,rfl,hA,hc0,hm⟩:=hv;refine enter func23 call23 rfl ntmps23 rfl fun w0=>?_;refine go 4 fun g6=>?_
 refine go 2 fun g7=>?_
 refine go 2 fun g11=>?_
 refine go 8 ?_;refine a0m (b3r _ vc c hvc hsc f sf hfm _ [] RdS.nil' (by simp) (fun e he=>by cases he) 0) rfl rfl fun v23 I23 j23 q23=>?_
 try have hvc:=hvc.le j23
 try have hfm:=hfm.le j23
 try have hb:=hb.le j23
 try have hv0:=hv0.le j23
 try have hA:=hA.le j23
 try have Ro:=Ro.le j23
 try have hVd:=hVd.le j23
 obtain⟨w23,rfl,hw23⟩:=q23;refine go 6 fun g13=>?_
 refine go 1 ?_;refine a0Y _ he rfl rfl rfl rfl rfl (by simp[RdS.one hw23]) ?_;refine gC 10 (fun h28 p28=>?_) fun h28 p28=>?_
 ·refine go 8 ?_;exact q_i (congrArg Value.bool (b2K (by simp only[h28,bS])).symm)
 ·have hrun:(runL f c [] 0).2.2=0:=by simpa using h28
  refine go 7 ?_;refine cV (a4f _ _ l hv0 73 [] (fun r=>!a0g r) (fun x hx vs hr=>by obtain⟨q,rfl,S,d,rfl,hS,hd,hm⟩:=hr;exact d7b _ x S d ⟨_,_,rfl,hS,hd,hm⟩ (hsl _ hx))) ?_;refine gC 2 (fun h30 p30=>?_) fun h30 p30=>?_
  ·refine go 8 ?_;exact q_i (congrArg Value.bool (b2K (by rw[h30,Bool.or_true])).symm)
  ·have hva:(l.any fun r=>!a0g r)=false:=h30;have hvl:=a3N hva;have hcl2:=b0T (l:=l) (R:=R) (p:=vn);have hQ1:=b0j hvc hfm hb RdS.nil' vn day (l:=([]:List Rep));refine go 11 fun g16=>?_
   refine go 1 ?_;refine a0Y _ he rfl rfl rfl rfl rfl hQ1 ?_;refine go 5 ?_;refine a0E 109 2 ?_;refine go 3 ?_;refine a0m (c2M _ _ l hv0 oM hsl vn R hRt) rfl rfl fun v38 I38 j38 q38=>?_
   try have hvc:=hvc.le j38
   try have hfm:=hfm.le j38
   try have hb:=hb.le j38
   try have hv0:=hv0.le j38
   try have hA:=hA.le j38
   try have Ro:=Ro.le j38
   try have hVd:=hVd.le j38
   obtain⟨CA,cc,rfl,hCA,hcc,hcm⟩:=q38;rw[a4L]at hcc ⊢
   refine go 5 ?_;refine a0d ?_;refine a0a ?_;refine a0u ?_;refine a0a ?_;refine a0u ?_;refine a0a ?_
   refine a3A ((0:Nat)) (none) (0) ([]) (fun i A16 c16 xs=>I38)
    (fun i A16 c16 xs=>[(2,.slice A l.length c0),(11,.pointer (some ⟨g11,0,none⟩)),(16,.pointer (some ⟨g16,0,none⟩)),(38,.slice CA (ofN l R vn).length cc),(39,.int .i64 (((ofN l R vn).length:Nat):Int)),(40,.int .i64 ((i:Nat):Int))])
    (fun i A16 c16 xs=>[.row (.slice A16 i c16) 109 2 i xs,.blk g16 159 [vc,ci f.op,ci f.n,sf,v0,v1,v2,v3,v4,v5,.slice A16 i c16,.string vn,.int .i64 (day)],.blk g11 48 (vd.cs k h u)])
    (fun i A16 c16 xs=>i≤(ofN l R vn).length∧Flat I38 xs (a5l l ((ofN l R vn).take i)))
    (fun i A16 c16 xs=>(ofN l R vn).length-i) ⟨Nat.zero_le _,.nil⟩ rfl sb rfl ?_
   intro i A16 c16 xs ⟨hi,hF⟩;have hcl3:(a0D l R vn).length=(ofN l R vn).length:=a5m fun i hi=>b4X hi
   refine gC 6 (fun h41 p41=>?_) fun h41 p41=>?_
   ·have hlt:i<(ofN l R vn).length:=oM;have hcl:(ofN l R vn)[i]<l.length:=b4X (List.getElem_mem hlt);refine go 6 ?_;obtain⟨b42,o42,w42,e42,c42,r42⟩:=RdA.at_ hCA (i:=i) (by first|exact hlt|(rw[a4L];exact hlt));rw[c2V hlt]at r42
    obtain rfl:=r42;refine o_v rfl (a0l he rfl rfl e42 (i) oM (by first|exact hlt|(rw[a4L];exact hlt))) ?_;refine go 4 ?_;refine a0b ?_;refine a0b ?_;refine ds2 ?_;refine dG 0 1 ?_;refine dG 2 2 ?_;obtain⟨b48,o48,w48,e48,c48,r48⟩:=RdA.at_ hA (i:=(ofN l R vn)[i]) hcl;obtain⟨q48,rfl,S48,d48,rfl,hS48,hd48,hm48⟩:=r48;refine a0F 4 rfl rfl (by kernel_rfl) rfl (.cons _ (.cons _ (.refl _))) rfl (a0l he rfl rfl e48 ((ofN l R vn)[i]) oM hcl) ?_;refine dG 5 1 ?_;refine dT2 1 6 ?_ ?_
    ·refine a0q rfl (b1m m1 he rfl rfl) ?_;refine dH 6 0 ?_;refine go 1 fun v50=>?_
     refine dH 7 0 ?_;refine a0b ?_;refine a0O he he rfl rfl rfl rfl rfl oM oM rfl fun v51=>?_;refine a1c fun A51 c51 hv51=>?_;subst hv51;refine dH 8 1 ?_;refine a0d ?_;refine go 10 ?_;refine a0d ?_;refine a0a ?_;refine a0d ?_;refine a0b ?_;refine a0d ?_;exact a1G (i+1) (_) (_) (_) ⟨oM,by rw[a7N hlt hcl];exact hF.append (.one ⟨_,rfl,⟨_,_,rfl,hS48,hd48,hm48⟩⟩)⟩ oM rfl sb rfl
    ·refine go 1 fun v50=>?_
     refine dH 1 0 ?_;refine a0q rfl (b1m m2 he rfl rfl) ?_;refine dH 7 0 ?_;refine a0b ?_;refine a0O he he rfl rfl rfl rfl rfl oM oM rfl fun v51=>?_;refine a1c fun A51 c51 hv51=>?_;subst hv51;refine dH 8 1 ?_;refine a0d ?_;refine go 10 ?_;refine a0d ?_;refine a0a ?_;refine a0d ?_;refine a0b ?_;refine a0d ?_;exact a1G (i+1) (_) (_) (_) ⟨oM,by rw[a7N hlt hcl];exact hF.append (.one ⟨_,rfl,⟨_,_,rfl,hS48,hd48,hm48⟩⟩)⟩ oM rfl sb rfl
   ·obtain rfl:i=(ofN l R vn).length:=oM;rw[List.take_length]at hF
    refine a0i (l:=(a0D l R vn)) rfl hcl3.symm hF fun I9 j9 Ro=>?_;have hvc:=hvc.le j9;have hfm:=hfm.le j9;have hb:=hb.le j9;have hVd:=hVd.le j9;rw[←hcl3]at Ro ⊢
    have hvo:((a0D l R vn).any fun r=>!a0g r)=false:=b5Q.2 (a4c hvl);refine go 8 ?_;refine a5i (Value.int .i64) he rfl fun r55=>?_;refine go 3 ?_;refine a4N ([(1,.func (.func 74) #[.agg #[vc,ci f.op,ci f.n,sf,v0,v1,v2,v3,v4,v5,.slice A16 (a0D l R vn).length c16,.string vn,.int .i64 (day)]] #[])]) (b3n he) he ((1)) rfl rfl rfl (rfl) ?_;refine go 3 ?_;refine a4N ([(1,.func (.func 74) #[.agg #[vc,ci f.op,ci f.n,sf,v0,v1,v2,v3,v4,v5,.slice A16 (a0D l R vn).length c16,.string vn,.int .i64 (day)]] #[]),(3,.func (.func 75) #[.agg #[vc,ci f.op,ci f.n,sf,v0,v1,v2,v3,v4,v5,.slice A16 (a0D l R vn).length c16,.string vn,.int .i64 (day)]] #[])]) (b3n he) he ((3)) rfl rfl rfl (rfl) ?_;refine go 3 ?_;refine a4N ([(1,.func (.func 74) #[.agg #[vc,ci f.op,ci f.n,sf,v0,v1,v2,v3,v4,v5,.slice A16 (a0D l R vn).length c16,.string vn,.int .i64 (day)]] #[]),(3,.func (.func 75) #[.agg #[vc,ci f.op,ci f.n,sf,v0,v1,v2,v3,v4,v5,.slice A16 (a0D l R vn).length c16,.string vn,.int .i64 (day)]] #[]),(2,.func (.func 76) #[.agg #[vc,ci f.op,ci f.n,sf,v0,v1,v2,v3,v4,v5,.slice A16 (a0D l R vn).length c16,.string vn,.int .i64 (day)]] #[])]) (b3n he) he ((2)) rfl rfl rfl (rfl) ?_;refine go 3 ?_;obtain⟨z,bb,hz,hbb,hbf,hzb⟩:=d3L _ vc c hvc hsc f sf hfm v0 v1 v2 v3 v4 v5 b hb hok vn day _ _ (a0D l R vn) Ro oM (fun r hr=>hsl r (a6Z hr)) hvo vd k h u hVd;refine o_v rfl (a9g m0 (b3n he) he he (vd.kind) rfl rfl hz hbb) ?_;refine gS 11 69 (fun h69 p69=>?_) fun h69 p69=>?_
    ·obtain⟨n72,rfl,hc72⟩:=hzb h69;refine go 3 ?_;refine a0n rfl rfl h69 (a0m (hc72) rfl rfl (fun v72 I72 j72 q72=>?_))
     try have hvc:=hvc.le j72
     try have hfm:=hfm.le j72
     try have hb:=hb.le j72
     try have hv0:=hv0.le j72
     try have hA:=hA.le j72
     try have Ro:=Ro.le j72
     try have hVd:=hVd.le j72
     obtain rfl:=q72;refine go 6 ?_;exact q_i (congrArg Value.bool (a9O hrun hva).symm)
    ·refine go 9 ?_;exact q_i (congrArg Value.bool ((a9O hrun hva).trans (hbf h69)).symm)
end Go.Proofs.YtgmkjpafapgccaaGreat
namespace Go.Proofs.YtgmkjpafapgccaaGreat
open Go Go.Sx Tryz
set_option linter.all false
set_option maxRecDepth 20000
set_option maxHeartbeats 4000000
instance:Has (a2j prog 36) ([.string ⟨#[]⟩,.string ⟨#[]⟩,.int .i64 0,.string ⟨#[]⟩,.string ⟨#[]⟩,.int .i64 0,.int .i64 0,.slice none 0 0],8,112):=hk
instance:Has (a6J prog 31) (38,12):=hk
instance:Has (a1k prog 38 0) (0,false,1):=hk
instance:Has (a1k prog 38 1) (1,false,1):=hk
instance:Has (a1k prog 38 2) (2,false,1):=hk
instance:Has (a1k prog 38 3) (3,false,1):=hk
instance:Has (a1k prog 38 4) (4,true,8):=hk
instance:Has (tyK prog 38) (true,12):=hk
instance:Has (prog.underlying 31) (.slice 38):=hk
instance:Has (a1o prog 38) [.int .i64 0,.int .i64 0,.int .i64 0,.bool false,.string ⟨#[]⟩,.string ⟨#[]⟩,.int .i64 0,.string ⟨#[]⟩,.string ⟨#[]⟩,.int .i64 0,.int .i64 0,.slice none 0 0]:=hk
end Go.Proofs.YtgmkjpafapgccaaGreat
set_option linter.all false
namespace Go.Sx
open Go
section
variable {l:List Amd} {day clock:Int} {s:ByteArray} {i:Nat} {o:Option Amd} {a b:Amd}
end
abbrev d4G:ByteArray:=⟨#[98,97,116,99,104]⟩
abbrev nR:ByteArray:=⟨#[114]⟩
def c8W (p k:ByteArray):Evt:=⟨1,1,p,k,a0M,a0M,a0M,a0M,c8D⟩
def c8X (v:ByteArray):Evt:=⟨6,2,nM1,a0M,a0M,a0M,d4G,v,c8D⟩
def d7q:Evt:=⟨2,3,nM1,a0M,nV1,nM,a0M,a0M,c8D⟩
def fgL:List Rep:=[⟨[c8W nM1 d4I],false⟩,⟨[c8W nV1 b2i],false⟩,⟨[c8X ⟨#[65]⟩,c8X ⟨#[66]⟩],false⟩,⟨[d7q],false⟩]
def fgB (l:List Rul) (c:List Cnc):Bok:=⟨l,[],[],c,[],[]⟩
def ofG (c:List Kind) (b:Bok) (e:List Evt) (vn:ByteArray) (day:Int) (r:List Part×Int×Int):List Flt:=
 if c5j c r.1 r.2.2 vn=true then [⟨4,vn,⟨#[]⟩⟩]
 else c0K a4o (a1Y b c e r.1 day ((a0e r.1 vn).getD zPart)++(d0P r.1 vn).flatMap (fun n=>a1Y b c e r.1 day ((a0e r.1 n).getD zPart))++a2W vn b.holds)
theorem c3h {f:Fm} {c:List Kind} {b:Bok} {e:List Evt} {vn:ByteArray} {day:Int} {x:List Flt} (h:(d6I f c e day).isSome=true) (hx:ofG c b e vn day ((d6I f c e day).getD ([],0,0))=x):ofF f c b e vn day=x:=by
 obtain⟨r,hr⟩:=Option.isSome_iff_exists.1 h;rw[hr]at hx
 show ofG c b e vn day (runL f c e day)=x
 rw[c4b hr];exact hx
theorem b7M {f:Fm} {c:List Kind} {b:Bok} {l own:List Rep} {vn:ByteArray} {day:Int} {k:Int} (h:(runL f c [] 0).2.2=0) (hv:(l.any fun r=>!a0g r)=false)
  (hk:(match (a2o c own).find? fun t=>!(ftsF f c b own vn day t).isEmpty with|some _=>2|none=>if (a2o c own).isEmpty=true then 3 else 1)=k):(decR f c b l own vn day).kind=k:=by
 rw[b2T h hv,←hk];unfold b9E
 cases (a2o c own).find? fun t=>!(ftsF f c b own vn day t).isEmpty<;>rfl
theorem d4j {l:List Rul} {cs:List Cnc} (h:∀r∈l,b2J r) (hl:l.length≤100):OkBok (fgB l cs):=
 ⟨h,(fun _ h=>by cases h),(fun _ h=>by cases h),hl,Nat.zero_le _,Nat.zero_le _,Nat.zero_le _⟩
theorem a7q {I:IMap} {w v:Value} {l:List Rul} {cs:List Cnc} (h:RdS I w l) (h2:RdS I v cs):BokRd I w (.slice none 0 0) (.slice none 0 0) v (.slice none 0 0) (.slice none 0 0) (fgB l cs):=⟨h,RdS.nil',RdS.nil',h2,RdS.nil',RdS.nil'⟩
section
variable {R:Nat→Nat} (hR:Rts fgL R)
include hR
end
section
variable {l:List Amd} {late:Amd} {day clock:Int} {i:Nat}
end
end Go.Sx
namespace Go.Proofs.YtgmkjpafapgccaaGreat
open Go Go.Sx Tryz
set_option linter.all false
set_option maxRecDepth 20000
set_option maxHeartbeats 4000000
theorem b1d (I:IMap) (N:Nat) (ih:∀x,cntX x≤N→∀vs,XpRd I vs x→∀m:Int,0≤m→m≤80→FnE prog 185 #[.agg vs.toArray,.int .i64 (m)] I (fun u=>∃n:Int,u=ci n∧1≤n∧n≤m+1)) (x:Xp) (hN:cntX x≤N+1) (vs:List Value) (hx:XpRd I vs x) (m:Int) (hm0:0≤m) (hm1:m≤80) :
    FnE prog 185 #[.agg vs.toArray,.int .i64 (m)] I (fun u=>∃n:Int,u=ci n∧1≤n∧n≤m+1):=by
 obtain⟨sk,rfl,hk⟩:=b1v hx;obtain⟨K0,kc,rfl,hK,hkc,hkm⟩:=hk;refine enter func185 call185 rfl ntmps185 rfl fun w0=>?_;refine go 4 fun g2=>?_
 refine go 15 ?_
 refine a0B ((0:Nat)) ((1:Int)) (fun i n=>I)
  (fun i n=>[(1,.int .i64 (m)),(2,.pointer (some ⟨g2,0,none⟩)),(5,.int .i64 (n)),(6,.int .i64 ((i:Nat):Int))])
  (fun i n=>[.blk g2 34 [ci x.op,.string x.name,.string x.value,ci x.n,ci x.extra,.slice K0 x.kids.length kc]])
  (fun i n=>i≤x.kids.length∧1≤n∧n≤m+1)
  (fun i n=>x.kids.length-i) ⟨Nat.zero_le _,Int.le_refl _,oM⟩ rfl sb rfl ?_
 intro i n ⟨hi,hn0,hn1⟩;refine gS 9 12 (fun h12 p12=>?_) fun h12 p12=>?_
 ·refine gC 6 (fun h16 p16=>?_) fun h16 p16=>?_
  ·have hlt:i<x.kids.length:=oM;refine go 9 ?_;obtain⟨b23,o23,w23,e23,c23,r23⟩:=RdA.at_ hK (i:=i) oM;refine go 1 ?_;refine o_v rfl (a0S he rfl c23 (Enc.len r23)) ?_;refine go 4 ?_;refine a0T (ih x.kids[i] (by have:=a7l (List.getElem_mem (show i<x.kids.length from oM));omega) _ r23 (m-n) oM oM) rfl rfl fun v28 q28=>?_;obtain⟨n28,rfl,hn28,hn29⟩:=q28;refine go 11 ?_;exact a0o (i+1) (n+n28) ⟨oM,oM,oM⟩ oM rfl sb rfl
  ·refine go 13 ?_;exact q_e ⟨n,rfl,hn0,hn1⟩
 ·refine go 20 ?_;exact q_e ⟨n,rfl,hn0,hn1⟩
theorem c0C (I:IMap) (x:Xp) (vs:List Value) (hx:XpRd I vs x) (m:Int) (hm0:0≤m) (hm1:m≤80):FnE prog 185 #[.agg vs.toArray,.int .i64 (m)] I (fun u=>∃n:Int,u=ci n∧1≤n∧n≤m+1):=by
 have key:∀N x,cntX x≤N→∀vs,XpRd I vs x→∀m:Int,0≤m→m≤80→FnE prog 185 #[.agg vs.toArray,.int .i64 (m)] I (fun u=>∃n:Int,u=ci n∧1≤n∧n≤m+1):=by
  intro N
  induction N with
  |zero=>intro x h;cases x;simp[cntX]at h
  |succ N ih=>exact fun x hN vs hx m h0 h1=>b1d I N ih x hN vs hx m h0 h1
 exact key (cntX x) x (Nat.le_refl _) vs hx m hm0 hm1
theorem b1e (I:IMap) (N:Nat) (ih:∀x,cntX x≤N→∀vs,XpRd I vs x→FnE prog 186 #[.agg vs.toArray] I (fun u=>∃b:Bool,u = .bool b)) (x:Xp) (hN:cntX x≤N+1) (vs:List Value) (hx:XpRd I vs x) :
    FnE prog 186 #[.agg vs.toArray] I (fun u=>∃b:Bool,u = .bool b):=by
 obtain⟨sk,rfl,hk⟩:=b1v hx;obtain⟨K0,kc,rfl,hK,hkc,hkm⟩:=hk;refine enter func186 call186 rfl ntmps186 rfl fun w0=>?_;refine go 4 fun g1=>?_
 refine gS 11 8 (fun h8 p8=>?_) fun h8 p8=>?_
 ·refine go 16 ?_;exact q_e ⟨_,rfl⟩
 ·refine gC 7 (fun h13 p13=>?_) fun h13 p13=>?_
  ·refine go 8 ?_;exact q_e ⟨_,rfl⟩
  ·refine go 9 ?_
   refine a0x (α:=Nat) (0:Nat) (fun i=>I)
    (fun i=>[(1,.pointer (some ⟨g1,0,none⟩)),(3,.int .i64 ((i:Nat):Int))])
    (fun i=>[.blk g1 34 [ci x.op,.string x.name,.string x.value,ci x.n,ci x.extra,.slice K0 x.kids.length kc]])
    (fun i=>i≤x.kids.length)
    (fun i=>x.kids.length-i) (Nat.zero_le _) rfl sb rfl ?_
   intro i hi;refine gC 10 (fun h18 p18=>?_) fun h18 p18=>?_
   ·have hlt:i<x.kids.length:=oM;refine go 9 ?_;obtain⟨b24,o24,w24,e24,c24,r24⟩:=RdA.at_ hK (i:=i) hlt;refine go 1 ?_;refine o_v rfl (a0S he rfl c24 (Enc.len r24)) ?_;refine go 1 ?_;refine a0T (ih x.kids[i] (by have:=a7l (List.getElem_mem hlt);omega) _ r24) rfl rfl fun v26 q26=>?_;obtain⟨b26,rfl⟩:=q26;refine gC 3 (fun h27 p27=>?_) fun h27 p27=>?_
    ·refine go 12 ?_;exact q_e ⟨_,rfl⟩
    ·refine go 9 ?_;exact a0w (i+1) oM oM rfl sb rfl
   ·refine go 12 ?_;exact q_e ⟨_,rfl⟩
theorem c0D (I:IMap) (x:Xp) (vs:List Value) (hx:XpRd I vs x):FnE prog 186 #[.agg vs.toArray] I (fun u=>∃b:Bool,u = .bool b):=by
 have key:∀N x,cntX x≤N→∀vs,XpRd I vs x→FnE prog 186 #[.agg vs.toArray] I (fun u=>∃b:Bool,u = .bool b):=by
  intro N
  induction N with
  |zero=>intro x h;cases x;simp[cntX]at h
  |succ N ih=>exact fun x hN vs hx=>b1e I N ih x hN vs hx
 exact key (cntX x) x (Nat.le_refl _) vs hx
theorem c3T (I:IMap) (x:Xp) (vs:List Value) (hx:XpRd I vs x) :
    FnE prog 98 #[.agg vs.toArray] I (fun u=>∃b:Bool,u = .bool b):=by
 refine enter func98 call98 rfl ntmps98 rfl fun w0=>?_;refine go 4 fun g1=>?_
 refine go 5 ?_;refine o_v rfl (a2N m0 he rfl (Enc.len (α:=Xp) hx)) ?_;refine go 1 ?_;refine a0T (c0C _ x vs hx 80 oM oM) rfl rfl fun v4 q4=>?_;obtain⟨n4,rfl,hn4,hn5⟩:=q4;refine gS 2 6 (fun h6 p6=>?_) fun h6 p6=>?_
 ·refine a0z (a0n rfl rfl h6 (a0q rfl (a2N m0 he rfl (Enc.len (α:=Xp) hx)) ?_));refine go 1 ?_;refine a0n rfl rfl h6 (a0T (c0D _ x vs hx) rfl rfl (fun v8 q8=>?_));obtain⟨b8,rfl⟩:=q8;refine go 6 ?_;exact q_e ⟨_,rfl⟩
 ·refine go 8 ?_;exact q_e ⟨_,rfl⟩
theorem c7C (I:IMap) (r:Rul) (s:Value) (hs:RdS I s r.cond.kids) :
    FnE prog 37 #[.agg (r.cs s).toArray] I (fun u=>∃b:Bool,u = .bool b):=by
 obtain⟨SA,sc,rfl,_,_,_⟩:=id hs;refine enter func37 call37 rfl ntmps37 rfl fun w0=>?_;refine go 4 fun g1=>?_
 refine go 11 ?_;refine o_v rfl (b2D rfl rfl) ?_;refine gS 2 11 (fun h11 p11=>?_) fun h11 p11=>?_
 ·refine go 1 ?_;refine a0z (a0n rfl rfl h11 (a0q rfl (a1R (r.cond.cs (.slice SA r.cond.kids.length sc)) m0 he rfl rfl rfl) ?_));refine go 1 ?_;refine a0n rfl rfl h11 (a0T (c3T _ r.cond _ (a8V hs)) rfl rfl (fun v14 q14=>?_));obtain⟨b14,rfl⟩:=q14;refine go 6 ?_;exact q_e ⟨_,rfl⟩
 ·refine go 9 ?_;exact q_e ⟨_,rfl⟩
end Go.Proofs.YtgmkjpafapgccaaGreat
set_option linter.all false
namespace Go.Sx
open Go
section
variable {σ:Type} {c:List Kind} {l:List Rep} {E:σ→List Int→Bool×σ} {x:Fm} {ch:List Int} {n:Int} {s:σ} {q:Int×σ} {a i:Nat}
theorem b9n (hp:∀r∈l,a0g r=true):∀N ch (n:Int) s,Opn l ch→a9m ch≤N→n+(cntN (a2i c l N ch):Nat)≤4096→(∀t∈a2m c l N ch,∀s,(E s t).1=true) →
  visF c l E (a2i c l N ch) ch n s=some (n+(cntN (a2i c l N ch):Nat),(a2m c l N ch).foldl (fun s t=>(E s t).2) s):=by
 intro N
 induction N with
 |zero=>
  intro ch n s ho hn hc he
  cases hf:a1B c l ch with
  |true=>
   rw[a3e hf,a5d hf]at *
   rw[c0S (by simp[cntN,cntNL]at hc;omega) rfl rfl,if_pos hf]
   simp[cntN,cntNL]
  |false=>
   have hs:a1C l ch<0:=by
    by_cases hs:a1C l ch<0
    ·exact hs
    ·obtain⟨a,e,ha,hb,hna,hca⟩:=a3q ho hs;have:=a5y (k:=0) hb hna (Int.le_refl 0);omega
   rw[a3f hf hs,a5e hf hs]at *
   rw[b7o (by simp[cntN,cntNL]at hc;omega) rfl rfl,if_neg (fun hm=>by have:=a9F ho hs _ hm;omega),if_pos (he ch (by simp) s)]
   simp[cntN,cntNL]
 |succ N ih=>
  intro ch n s ho hn hc he
  cases hf:a1B c l ch with
  |true=>
   rw[a3e hf,a5d hf]at *
   rw[c0S (by simp[cntN,cntNL]at hc;omega) rfl rfl,if_pos hf]
   simp[cntN,cntNL]
  |false=>
   by_cases hs:a1C l ch<0
   ·rw[a3f hf hs,a5e hf hs]at *
    rw[b7o (by simp[cntN,cntNL]at hc;omega) rfl rfl,if_neg (fun hm=>by have:=a9F ho hs _ hm;omega),if_pos (he ch (by simp) s)]
    simp[cntN,cntNL]
   ·obtain⟨a,e,ha,hb,hna,hca⟩:=a3q ho hs;have hk:=a7z (c:=c) (l:=l) (n:=N) (ch:=ch) (a:=a) (by rw[a5E ha];omega);rw[a5E ha]at hk
    have hends:a2m c l (N+1) ch=a5x c l N ch a (a2w c l N ch a).length:=by rw[a6o hf e,a5E ha,←hk];rfl
    rw[hends]at he ⊢
    rw[a2s hf e,b2Q]at hc ⊢
    have hsp:a8M l ch (a:Int) (a2w c l N ch a).length=false:=by
     unfold a8M;rw[a5E (show ((a:Nat):Int).toNat<l.length from ha),b7c (show ((a:Nat):Int).toNat<ch.length from hb)]
     simp only[Bool.or_eq_false_iff,decide_eq_false_iff_not,Bool.not_eq_false',decide_eq_true_eq]
     refine⟨⟨⟨oM,oM⟩,?_⟩,hk⟩
     show ¬0≤ch[a];omega
    rw[c4V (x:=.mk 1 (a:Int) (a2w c l N ch a)) oM rfl rfl,if_neg (by intro hx;exact absurd (hsp.symm.trans hx) (by decide))]
    show visL c l E (a2w c l N ch a) a 0 ch (n+1) s=_
    have key:∀i,i≤(a2w c l N ch a).length→visL c l E (a2w c l N ch a) a 0 ch (n+1) s=visL c l E ((a2w c l N ch a).drop i) a i ch (n+1+(cntNL ((a2w c l N ch a).take i):Nat)) ((a5x c l N ch a i).foldl (fun s t=>(E s t).2) s):=by
     intro i
     induction i with
     |zero=>intro _;rw[List.drop_zero];simp[cntNL,a8z]
     |succ i ihi=>
      intro hi;have hlt:i<(a2w c l N ch a).length:=oM;rw[ihi oM];have h1:=b7D hlt;have h2:=a4t hlt
      have hsub:∀t∈a2m c l N (ch.set a (i:Int)),∀s,(E s t).1=true:=fun t ht=>he t (by
       unfold a5x
       exact List.mem_flatMap.2 ⟨i,List.mem_range.2 hlt,ht⟩)
      have hng:=a5y (k:=(i:Int)) hb hna oM;have hv:=ih (ch.set a (i:Int)) (n+1+(cntNL ((a2w c l N ch a).take i):Nat)) ((a5x c l N ch a i).foldl (fun s t=>(E s t).2) s) (ho.set ha oM oM) oM (by rw[←a2D hlt];omega) hsub;rw[←a2D hlt]at hv
      rw[b5H hlt hv,a5h,List.foldl_append,h2]
      congr 1
      ·rw[a2D hlt]
       push_cast
       omega
    rw[key _ (Nat.le_refl _),b9l oM,List.take_length];exact congrArg some (Prod.ext (by show n+1+_=n+((_+1:Nat):Int);push_cast;omega) rfl)
theorem d2Z:∀(N:Nat) (x:Fm),cntN x≤N→∀ch n s q,visF c l E x ch n s=some q→(∃s t,(E s t).1=true)∨q.2=s:=by
 intro N
 induction N with
 |zero=>intro x hx;cases x;simp[cntN]at hx
 |succ N ih=>
  intro x hx ch n s q hv
  by_cases h0:n+1>4096
  ·rw[d2X h0]at hv;cases hv
  cases hb:a7A x.op x.n x.kids.length with
  |true=>rw[d2Y h0 hb]at hv;cases hv
  |false=>
   by_cases h2:x.op=2
   ·rw[c0S h0 hb h2]at hv
    split at hv<;>cases hv
    exact .inr rfl
   by_cases h3:x.op=3
   ·rw[b7o h0 hb h3]at hv
    split at hv
    ·cases hv
    split at hv
    ·rename_i he;exact .inl ⟨_,_,he⟩
    ·cases hv
   by_cases h1:x.op=1
   ·rw[c4V h0 hb h1]at hv
    split at hv
    ·cases hv
    have key:∀(ks:List Fm),(∀k∈ks,cntN k≤N)→∀a i ch n s q,visL c l E ks a i ch n s=some q→(∃s t,(E s t).1=true)∨q.2=s:=by
     intro ks
     induction ks with
     |nil=>intro _ a i ch n s q h;rw[visL]at h;cases h;exact .inr rfl
     |cons k ks ihk=>
      intro hk a i ch n s q h;rw[visL]at h
      cases hq:visF c l E k (ch.set a (i:Int)) n s with
      |none=>rw[hq]at h;cases h
      |some q1=>
       rw[hq]at h
       rcases ih k (hk k (by simp)) _ _ _ _ hq with g1|g1
       ·exact .inl g1
       ·rcases ihk (fun y hy=>hk y (by simp[hy])) _ _ _ _ _ _ h with g2|g2
        ·exact .inl g2
        ·exact .inr (g2.trans g1)
    exact key x.kids (fun k hk=>by have:=a4e (f:=x) hk;omega) _ _ _ _ _ _ hv
   ·rw[d3a h0 hb h2 h3 h1]at hv;cases hv
end
theorem c2q (l:List (List Int)):∀s:Int,0≤s→s+l.length≤1000000→l.foldl (fun s _=>IntKind.i64.wrap (s+1)) s=s+l.length:=by
 induction l with
 |nil=>intro s _ _;simp
 |cons x l ih=>
  intro s h0 h1
  simp only[List.length_cons]at h1
  have e:IntKind.i64.wrap (s+1)=s+1:=by rw[IntKind.wrap_i64];omega
  rw[List.foldl_cons,e,ih (s+1) oM oM]
  simp only[List.length_cons];omega
section
variable {c:List Kind} {own:List Rep} {fts:List Int→List Flt} {v:Vdt}
theorem c1a (hc:a1I c=true) (hv:∀r∈own,a0g r=true) {t:List Int} (h:isF c own t=true):Agr (b4d own) t:=by
 have h1:=(b0o hc hv t).2 h
 have hg:d0J c own=true:=by
  simp only[d0J,Bool.and_eq_true]
  refine⟨hc,?_⟩;rw[a3v,List.all_eq_true];intro i hi;have hi:=List.mem_range.1 hi
  simp only[List.getElem?_eq_getElem hi]
  exact hv _ (List.getElem_mem hi)
 exact ((b7N hg _ _ (Opn.beg hv) (Nat.le_refl _) t).1 h1).1
theorem b5n (hc:a1I c=true) (hv:∀r∈own,a0g r=true) (h:c7G c own fts v=true):(∀t,isF c own t=true→fts t=[])∧∃t,isF c own t=true:=by
 unfold c7G at h
 cases hq:visF c own (c0E c own fts) v.proof (b4d own) 0 0 with
 |none=>rw[hq]at h;cases h
 |some q=>
  rw[hq]at h
  simp only[Bool.and_eq_true,decide_eq_true_eq]at h
  refine⟨fun t ht=>?_,?_⟩
  ·have:=b9m (e:=fun t=>isF c own t&&decide (((fts t).length:Int)=0)) (E:=c0E c own fts) (fun s t=>rfl) _ v.proof (Nat.le_refl _) _ _ _ q (Opn.beg hv) hq t (c1a hc hv ht) ht
   simp only[Bool.and_eq_true,decide_eq_true_eq]at this
   exact List.eq_nil_of_length_eq_zero oM
  ·rcases d2Z _ v.proof (Nat.le_refl _) _ _ _ _ hq with ⟨s,t,ht⟩|h2
   ·simp only[c0E,Bool.and_eq_true]at ht
    exact⟨t,ht.1⟩
   ·omega
theorem c3d (hc:a1I c=true) (hv:∀r∈own,a0g r=true) (h:c9g c own v=true):∀t,¬isF c own t=true:=by
 unfold c9g at h
 simp only[Bool.and_eq_true]at h
 obtain⟨q,hq⟩:=Option.isSome_iff_exists.1 h.2;intro t ht;have:=b9m (e:=fun _=>false) (E:=d1q) (fun s t=>rfl) _ v.proof (Nat.le_refl _) _ _ _ q (Opn.beg hv) hq t (c1a hc hv ht) ht
 cases this
theorem c2m (h:c0X c own fts v=true):isF c own v.hist=true∧fts v.hist≠[]:=by
 unfold c0X at h
 simp only[Bool.and_eq_true,decide_eq_true_eq]at h
 exact⟨h.1.1.1.1.1,fun e=>by have:=h.1.1.1.1.2;rw[e]at this;simp at this⟩
theorem a7m (p:Fm) (eds:List (List Int)) (fts:List Int→List Flt) :
  (eds=[]∧b9E p eds fts=⟨3,p,[],[]⟩)∨(eds≠[]∧(∀t∈eds,fts t=[])∧b9E p eds fts=⟨1,p,[],[]⟩)∨∃t∈eds,fts t≠[]∧b9E p eds fts=⟨2,d1l,t,fts t⟩:=by
 unfold b9E
 cases h:eds.find? fun t=>!(fts t).isEmpty with
 |none=>
  have h1:=List.find?_eq_none.1 h
  cases eds with
  |nil=>exact .inl ⟨rfl,rfl⟩
  |cons x l=>exact .inr (.inl ⟨by simp,fun t ht=>by have:=h1 t ht;simpa using this,rfl⟩)
 |some t=>
  have h1:=List.find?_some h;exact .inr (.inr ⟨t,List.mem_of_find?_eq_some h,by simpa using h1,rfl⟩)
variable {f:Fm} {b:Bok} {l:List Rep} {R:Nat→Nat} {vn:ByteArray} {day:Int}
theorem c5q (h0:(runL f c [] 0).2.2=0) (hva:(l.any fun r=>!a0g r)=false) (h:accF f c b l (a0D l R vn) vn day v=true):v.kind=(decR f c b l (a0D l R vn) vn day).kind:=by
 have hc:=a7V h0;have hv:=a4c (a3N hva) (R:=R) (p:=vn);rw[a9O h0 hva]at h
 rw[b2T h0 hva];unfold b3o at h
 have hm:=b0o hc hv
 by_cases h1:v.kind=1
 ·rw[if_pos h1]at h
  obtain⟨g1,t,g2⟩:=b5n hc hv h;rw[h1]
  rcases a7m (a3k c (a0D l R vn)) (a2o c (a0D l R vn)) (ftsF f c b (a0D l R vn) vn day) with ⟨e,_⟩|⟨_,_,e⟩|⟨u,hu,hn,_⟩
  ·have:=(hm t).2 g2;rw[e]at this;cases this
  ·rw[e]
  ·exact absurd (g1 u ((hm u).1 hu)) hn
 rw[if_neg h1]at h
 by_cases h3:v.kind=3
 ·rw[if_pos h3]at h
  have g:=c3d hc hv h;rw[h3]
  rcases a7m (a3k c (a0D l R vn)) (a2o c (a0D l R vn)) (ftsF f c b (a0D l R vn) vn day) with ⟨_,e⟩|⟨hn,_,_⟩|⟨u,hu,_,_⟩
  ·rw[e]
  ·obtain⟨t,r,e⟩:=List.exists_cons_of_ne_nil hn;exact absurd ((hm t).1 (by rw[e];simp)) (g t)
  ·exact absurd ((hm u).1 hu) (g u)
 rw[if_neg h3]at h
 by_cases h2:v.kind=2
 ·rw[if_pos h2]at h
  obtain⟨g1,g2⟩:=c2m h;rw[h2]
  rcases a7m (a3k c (a0D l R vn)) (a2o c (a0D l R vn)) (ftsF f c b (a0D l R vn) vn day) with ⟨e,_⟩|⟨_,ha,_⟩|⟨u,hu,_,e⟩
  ·have:=(hm _).2 g1;rw[e]at this;cases this
  ·exact absurd (ha _ ((hm _).2 g1)) g2
  ·rw[e]
 ·rw[if_neg h2]at h;cases h
theorem c0Z (h0:(runL f c [] 0).2.2=0) (hva:(l.any fun r=>!a0g r)=false) (hw:a3O l≤2000):accF f c b l (a0D l R vn) vn day (decR f c b l (a0D l R vn) vn day)=true:=by
 have hc:=a7V h0;have hv:=a4c (a3N hva) (R:=R) (p:=vn);rw[a9O h0 hva,b2T h0 hva];have hm:=b0o hc hv;have h96:cntN (a3k c (a0D l R vn))≤4096:=by have h1:=b5A (c:=c) hv;have h2:=a7L (R:=R) (p:=vn) (a3N hva);omega
 have hel:(a2o c (a0D l R vn)).length≤2000:=by have h1:=b4v (c:=c) hv;have h2:=a7L (R:=R) (p:=vn) (a3N hva);omega
 unfold b3o
 rcases a7m (a3k c (a0D l R vn)) (a2o c (a0D l R vn)) (ftsF f c b (a0D l R vn) vn day) with ⟨he,e⟩|⟨hn,ha,e⟩|⟨u,hu,hf,e⟩
 ·rw[e]
  show c9g c _ ⟨3,a3k c (a0D l R vn),[],[]⟩=true
  have hvis:=b9n (E:=d1q) (c:=c) hv _ _ 0 () (Opn.beg hv) (Nat.le_refl _) (by have h9:(cntN (a2i c (a0D l R vn) (a9m ((a0D l R vn).map b3V)) ((a0D l R vn).map b3V)):Nat)≤4096:=h96;omega) (fun t ht=>by
   have:t∈a2o c (a0D l R vn):=ht
   rw[he]at this;cases this)
  unfold c9g
  show (decide (((0:Nat):Int)+((0:Nat):Int)=0)&&(visF c _ d1q (a3k c (a0D l R vn)) (b4d (a0D l R vn)) 0 ()).isSome)=true
  have hvis2:visF c (a0D l R vn) d1q (a3k c (a0D l R vn)) (b4d (a0D l R vn)) 0 ()=_:=hvis;rw[hvis2];rfl
 ·rw[e]
  show c7G c _ _ ⟨1,a3k c (a0D l R vn),[],[]⟩=true
  have hvis:=b9n (E:=c0E c (a0D l R vn) (ftsF f c b (a0D l R vn) vn day)) (c:=c) hv _ _ 0 0 (Opn.beg hv) (Nat.le_refl _) (by have h9:(cntN (a2i c (a0D l R vn) (a9m ((a0D l R vn).map b3V)) ((a0D l R vn).map b3V)):Nat)≤4096:=h96;omega) (fun t ht s=>by
   have h1:t∈a2o c (a0D l R vn):=ht
   simp only[c0E,(hm t).1 h1,ha t h1,List.length_nil];rfl)
  have hvis2:visF c (a0D l R vn) (c0E c (a0D l R vn) (ftsF f c b (a0D l R vn) vn day)) (a3k c (a0D l R vn)) (b4d (a0D l R vn)) 0 0=some (0+((cntN (a3k c (a0D l R vn)):Nat):Int),(a2o c (a0D l R vn)).foldl (fun s _=>IntKind.i64.wrap (s+1)) 0):=hvis;unfold c7G
  show (match visF c (a0D l R vn) (c0E c (a0D l R vn) (ftsF f c b (a0D l R vn) vn day)) (a3k c (a0D l R vn)) (b4d (a0D l R vn)) 0 0 with|none=>false|some q=>decide (0<q.2)&&decide (((0:Nat):Int)+((0:Nat):Int)=0))=true
  rw[hvis2,c2q _ 0 (Int.le_refl _) oM];have hpos:0<(a2o c (a0D l R vn)).length:=List.length_pos_iff.2 hn
  simp only[Bool.and_eq_true,decide_eq_true_eq]
  exact⟨oM,oM⟩
 ·rw[e]
  show c0X c _ _ ⟨2,d1l,u,ftsF f c b (a0D l R vn) vn day u⟩=true
  have hpos:0<(ftsF f c b (a0D l R vn) vn day u).length:=List.length_pos_iff.2 hf;unfold c0X
  simp only[Bool.and_eq_true,decide_eq_true_eq]
  exact⟨⟨⟨⟨⟨(hm u).1 hu,oM⟩,trivial⟩,rfl⟩,rfl⟩,rfl⟩
end
end Go.Sx
set_option linter.all false
namespace Go.Sx
open Go
structure FewBk (b:Bok):Prop where
 rules:b.rules.length≤5
 subs:b.subs.length≤5
 duties:b.duties.length≤5
 conc:b.conc.length≤5
 recalls:b.recalls.length≤5
 holds:b.holds.length≤5
def cfL:List Rep:=[⟨[d3D],false⟩,⟨[d3E 1 8],false⟩,⟨[d3E 2 5],true⟩]
section
variable {R:Nat→Nat} (hR:Rts cfL R)
include hR
end
theorem d8M {b:Bok} (h:OkBk b) (g:FewBk b):OkBok b:=⟨h.rules,h.recalls,h.duties,by have:=g.rules;omega,by have:=g.recalls;omega,by have:=g.duties;omega,by have:=g.holds;omega⟩
end Go.Sx
namespace Go.Proofs.YtgmkjpafapgccaaGreat
open Go Go.Sx Tryz
set_option linter.all false
set_option maxRecDepth 20000
set_option maxHeartbeats 4000000
instance:Has (a1k prog 181 0) (0,false,1):=hk
instance:Has (a1k prog 181 1) (1,false,1):=hk
instance:Has (a1k prog 181 2) (2,false,1):=hk
theorem a7Q (I:IMap) (v:Value) (l:List ByteArray) (hv:RdS I v l) :
    FnE prog 139 #[v] I (fun u=>∃b:Bool,u = .bool b):=by
 obtain⟨A,c0,rfl,hA,hc,hm⟩:=hv;refine enter func139 call139 rfl ntmps139 rfl fun w0=>?_;refine go 12 ?_
 refine a0x (α:=Nat) 0 (fun i=>I)
  (fun i=>[(0,.slice A l.length c0),(3,.int .i64 ((i:Nat):Int))])
  (fun i=>[])
  (fun i=>i≤l.length)
  (fun i=>l.length-i) (Nat.zero_le _) rfl sb rfl ?_
 intro i hi;refine gC 9 (fun h7 p7=>?_) fun h7 p7=>?_
 ·have hlt:i<l.length:=oM;refine go 8 ?_;obtain⟨b12,o12,w12,e12,c12,r12⟩:=RdA.at_ hA (i:=i) oM;obtain rfl:=r12;refine gC 6 (fun h15 p15=>?_) fun h15 p15=>?_
  ·refine go 12 ?_;exact q_e ⟨_,rfl⟩
  ·refine go 9 ?_;exact a0w (i+1) oM oM rfl sb rfl
 ·refine go 12 ?_;exact q_e ⟨_,rfl⟩
theorem b8N (I:IMap) (v:Value) (l:List Rul) (hv:RdS I v l) (m:Int) :
    FnE prog 138 #[v,.int .i64 (m)] I (fun u=>∃b:Bool,u = .bool b∧(b=true→(l.length:Int)≤m)):=by
 obtain⟨A,c0,rfl,hA,hc,hm⟩:=hv;refine enter func138 call138 rfl ntmps138 rfl fun w0=>?_;refine go 12 ?_
 refine a0x (α:=Nat) 0 (fun i=>I)
  (fun i=>[(0,.slice A l.length c0),(1,.int .i64 (m)),(5,.int .i64 ((i:Nat):Int))])
  (fun i=>[])
  (fun i=>i≤l.length)
  (fun i=>l.length-i) (Nat.zero_le _) rfl sb rfl ?_
 intro i hi;refine gS 8 10 (fun h10 p10=>?_) fun h10 p10=>?_
 ·refine gC 7 (fun h15 p15=>?_) fun h15 p15=>?_
  ·have hlt:i<l.length:=oM;refine go 8 ?_;obtain⟨b20,o20,w20,e20,c20,r20⟩:=RdA.at_ hA (i:=i) oM;obtain⟨s20,rfl,hs20⟩:=r20;refine go 3 ?_;refine a0T (c7C _ (l[i]'oM) s20 hs20) rfl rfl fun v22 q22=>?_;obtain⟨b22,rfl⟩:=q22;refine gC 3 (fun h23 p23=>?_) fun h23 p23=>?_
   ·refine go 12 ?_;exact q_e ⟨false,rfl,fun h=>by cases h⟩
   ·refine go 9 ?_;exact a0w (i+1) oM oM rfl sb rfl
  ·refine go 16 ?_;exact q_e ⟨_,rfl,fun h=>of_decide_eq_true h⟩
 ·refine go 24 ?_;exact q_e ⟨_,rfl,fun h=>of_decide_eq_true h⟩
theorem c7D (I:IMap) (v0 v1 v2 v3 v4 v5:Value) (b:Bok) (hb:BokRd I v0 v1 v2 v3 v4 v5 b) :
    FnI prog 63 #[.agg #[v0,v1,v2,v3,v4,v5]] I (fun u J=>∃e:Bool,u = .bool e∧(e=true→FewBk b)):=by
 have hb0:=hb.r0;have hb4:=hb.r4;obtain⟨A0,c0,rfl,hA0,_,_⟩:=id hb.r0;obtain⟨A1,c1,rfl,hA1,_,_⟩:=id hb.r1;obtain⟨A2,c2,rfl,hA2,_,_⟩:=id hb.r2;obtain⟨A3,c3,rfl,hA3,_,_⟩:=id hb.r3;obtain⟨A4,c4,rfl,hA4,_,_⟩:=id hb.r4;obtain⟨A5,c5,rfl,hA5,_,_⟩:=id hb.r5;refine enter func63 call63 rfl ntmps63 rfl fun w0=>?_;refine go 4 fun g1=>?_
 refine go 6 ?_;refine a0A fun Ig1 jg1 cg1=>?_
 try have hA1:=hA1.le jg1
 try have hA2:=hA2.le jg1
 try have hA3:=hA3.le jg1
 try have hA5:=hA5.le jg1
 try have cg1:=cg1.le jg1
 try have hb0:=hb0.le jg1
 try have hb4:=hb4.le jg1
 refine go 1 ?_;refine o_v rfl (a0v he rfl (cg1 1 _ rfl)) ?_;refine gS 3 11 (fun h11 p11=>?_) fun h11 p11=>?_
 ·refine go 40 ?_;exact q_i ⟨false,rfl,fun h=>by cases h⟩
 ·refine go 1 ?_;refine a0z (a0n rfl rfl h11 (a0q rfl (a0v he rfl (cg1 2 _ rfl)) ?_));refine gS 4 17 (fun h17 p17=>?_) fun h17 p17=>?_
  ·refine go 34 ?_;exact q_i ⟨false,rfl,fun h=>by cases h⟩
  ·refine go 1 ?_;refine a0z (a0n rfl rfl h17 (a0q rfl (a0v he rfl (cg1 3 _ rfl)) ?_));refine gS 4 23 (fun h23 p23=>?_) fun h23 p23=>?_
   ·refine go 28 ?_;exact q_i ⟨false,rfl,fun h=>by cases h⟩
   ·refine go 1 ?_;refine a0z (a0n rfl rfl h23 (a0q rfl (a0v he rfl (cg1 5 _ rfl)) ?_));refine gS 4 29 (fun h29 p29=>?_) fun h29 p29=>?_
    ·refine go 22 ?_;exact q_i ⟨false,rfl,fun h=>by cases h⟩
    ·refine go 1 ?_;refine a0z (a0n rfl rfl h29 (a0q rfl (a0v he rfl (cg1 0 _ rfl)) ?_));refine go 1 ?_;refine a0n rfl rfl h29 (a0T (b8N _ _ _ hb0 5) rfl rfl (fun v32 q32=>?_));obtain⟨b32,rfl,h32a⟩:=q32;refine gS 3 35 (fun h35 p35=>?_) fun h35 p35=>?_
     ·refine go 16 ?_;exact q_i ⟨false,rfl,fun h=>by cases h⟩
     ·refine go 1 ?_;refine a0z (a0n rfl rfl h35 (a0q rfl (a0v he rfl (cg1 4 _ rfl)) ?_));refine go 1 ?_;refine a0n rfl rfl h35 (a0T (b8N _ _ _ hb4 5) rfl rfl (fun v38 q38=>?_));obtain⟨b38,rfl,h38a⟩:=q38;refine gC 4 (fun h40 p40=>?_) fun h40 p40=>?_
      ·refine go 8 ?_;exact q_i ⟨false,rfl,fun h=>by cases h⟩
      ·have hfb:FewBk b:=⟨by have:=h32a (by simpa using h35);omega,by simp at h11;omega,by simp at h17;omega,by simp at h23;omega,by have:=h38a (by simpa using h40);omega,by simp at h29;omega⟩;refine go 9 ?_
       refine a0B ((0:Nat)) (Ig1) (fun i J0=>J0)
        (fun i J0=>[(1,.pointer (some ⟨g1,0,none⟩)),(3,.int .i64 ((i:Nat):Int))])
        (fun i J0=>[])
        (fun i J0=>i≤b.subs.length∧ILe Ig1 J0)
        (fun i J0=>b.subs.length-i) ⟨Nat.zero_le _,ILe.refl _⟩ rfl sb rfl ?_
       intro i J0 ⟨hi,hJ0⟩;have hA1:=hA1.le hJ0;have hA2:=hA2.le hJ0;have hA3:=hA3.le hJ0;have hA5:=hA5.le hJ0;have cg1:=cg1.le hJ0;refine go 5 ?_;refine o_v rfl (a0v he rfl (cg1 1 _ rfl)) ?_;refine gC 4 (fun h45 p45=>?_) fun h45 p45=>?_
       ·have hlt:i<b.subs.length:=oM;refine go 5 ?_;refine a1P fun hE6 hf6=>?_;refine go 1 ?_;refine dG 0 1 ?_;refine a0F 1 rfl rfl (by kernel_rfl) rfl .slnil rfl (a0v he rfl (cg1 1 _ rfl)) ?_;refine dG 2 1 ?_;obtain⟨b51,o51,w51,e51,c51,r51⟩:=RdA.at_ hA1 (i:=i) hlt;obtain rfl:=r51;refine dG 3 4 ?_;refine a0F 7 rfl rfl (by kernel_rfl) rfl .slnil rfl (a0v he rfl (cg1 1 _ rfl)) ?_;refine dG 8 1 ?_;obtain⟨b57,o57,w57,e57,c57,r57⟩:=RdA.at_ hA1 (i:=i) hlt;obtain rfl:=r57;refine dG 9 4 ?_;refine a0F 13 rfl rfl (by kernel_rfl) rfl .slnil rfl (a0v he rfl (cg1 1 _ rfl)) ?_;refine dG 14 1 ?_;obtain⟨b63,o63,w63,e63,c63,r63⟩:=RdA.at_ hA1 (i:=i) hlt;obtain rfl:=r63;refine dG 15 4 ?_;refine a0F 19 rfl rfl (by kernel_rfl) rfl .slnil rfl (a0v he rfl (cg1 1 _ rfl)) ?_;refine dG 20 1 ?_;obtain⟨b69,o69,w69,e69,c69,r69⟩:=RdA.at_ hA1 (i:=i) hlt;obtain rfl:=r69;refine dH 21 3 ?_;refine go 1 fun v72=>?_
        refine a0i (l:=[b.subs[i].kind,b.subs[i].slot,b.subs[i].other,b.subs[i].twin]) rfl rfl ((a6j [b.subs[i].kind,b.subs[i].slot,b.subs[i].other,b.subs[i].twin])) fun I72 j72 R72=>?_
        try have hA1:=hA1.le j72
        try have hA2:=hA2.le j72
        try have hA3:=hA3.le j72
        try have hA5:=hA5.le j72
        try have cg1:=cg1.le j72
        try have hb0:=hb0.le j72
        try have hb4:=hb4.le j72
        refine dH 25 0 ?_;refine a0T (a7Q _ _ _ R72) rfl rfl fun v73 q73=>?_;obtain⟨b73,rfl⟩:=q73;refine dG 26 1 ?_;refine gC 2 (fun h74 p74=>?_) fun h74 p74=>?_
        ·refine go 12 ?_;exact q_i ⟨false,rfl,fun h=>by cases h⟩
        ·refine go 9 ?_;exact a0o (i+1) (I72) ⟨oM,hJ0.trans j72⟩ oM rfl sb rfl
       ·refine go 12 ?_
        refine a0B ((0:Nat)) (J0) (fun i J1=>J1)
         (fun i J1=>[(1,.pointer (some ⟨g1,0,none⟩)),(4,.int .i64 ((i:Nat):Int))])
         (fun i J1=>[])
         (fun i J1=>i≤b.duties.length∧ILe J0 J1)
         (fun i J1=>b.duties.length-i) ⟨Nat.zero_le _,ILe.refl _⟩ rfl sb rfl ?_
        intro i J1 ⟨hi,hJ1⟩;have hA1:=hA1.le hJ1;have hA2:=hA2.le hJ1;have hA3:=hA3.le hJ1;have hA5:=hA5.le hJ1;have cg1:=cg1.le hJ1;refine go 5 ?_;refine o_v rfl (a0v he rfl (cg1 2 _ rfl)) ?_;refine gC 4 (fun h79 p79=>?_) fun h79 p79=>?_
        ·have hlt:i<b.duties.length:=oM;refine go 5 ?_;refine a1P fun hE11 hf11=>?_;refine go 1 ?_;refine dG 0 1 ?_;refine a0F 1 rfl rfl (by kernel_rfl) rfl .slnil rfl (a0v he rfl (cg1 2 _ rfl)) ?_;refine dG 2 1 ?_;obtain⟨b85,o85,w85,e85,c85,r85⟩:=RdA.at_ hA2 (i:=i) hlt;obtain rfl:=r85;refine dG 3 4 ?_;refine a0F 7 rfl rfl (by kernel_rfl) rfl .slnil rfl (a0v he rfl (cg1 2 _ rfl)) ?_;refine dG 8 1 ?_;obtain⟨b91,o91,w91,e91,c91,r91⟩:=RdA.at_ hA2 (i:=i) hlt;obtain rfl:=r91;refine dG 9 4 ?_;refine a0F 13 rfl rfl (by kernel_rfl) rfl .slnil rfl (a0v he rfl (cg1 2 _ rfl)) ?_;refine dG 14 1 ?_;obtain⟨b97,o97,w97,e97,c97,r97⟩:=RdA.at_ hA2 (i:=i) hlt;obtain rfl:=r97;refine dH 15 3 ?_;refine go 1 fun v100=>?_
         refine a0i (l:=[b.duties[i].name,b.duties[i].kind,b.duties[i].key]) rfl rfl ((a6j [b.duties[i].name,b.duties[i].kind,b.duties[i].key])) fun I100 j100 R100=>?_
         try have hA1:=hA1.le j100
         try have hA2:=hA2.le j100
         try have hA3:=hA3.le j100
         try have hA5:=hA5.le j100
         try have cg1:=cg1.le j100
         try have hb0:=hb0.le j100
         try have hb4:=hb4.le j100
         refine dH 19 0 ?_;refine a0T (a7Q _ _ _ R100) rfl rfl fun v101 q101=>?_;obtain⟨b101,rfl⟩:=q101;refine dG 20 1 ?_;refine gC 2 (fun h102 p102=>?_) fun h102 p102=>?_
         ·refine go 12 ?_;exact q_i ⟨false,rfl,fun h=>by cases h⟩
         ·refine go 9 ?_;exact a0o (i+1) (I100) ⟨oM,hJ1.trans j100⟩ oM rfl sb rfl
        ·refine go 12 ?_
         refine a0B ((0:Nat)) (J1) (fun i J2=>J2)
          (fun i J2=>[(1,.pointer (some ⟨g1,0,none⟩)),(5,.int .i64 ((i:Nat):Int))])
          (fun i J2=>[])
          (fun i J2=>i≤b.conc.length∧ILe J1 J2)
          (fun i J2=>b.conc.length-i) ⟨Nat.zero_le _,ILe.refl _⟩ rfl sb rfl ?_
         intro i J2 ⟨hi,hJ2⟩;have hA1:=hA1.le hJ2;have hA2:=hA2.le hJ2;have hA3:=hA3.le hJ2;have hA5:=hA5.le hJ2;have cg1:=cg1.le hJ2;refine go 5 ?_;refine o_v rfl (a0v he rfl (cg1 3 _ rfl)) ?_;refine gC 4 (fun h107 p107=>?_) fun h107 p107=>?_
         ·have hlt:i<b.conc.length:=oM;refine go 5 ?_;refine a1P fun hE16 hf16=>?_;refine go 1 ?_;refine dG 0 1 ?_;refine a0F 1 rfl rfl (by kernel_rfl) rfl .slnil rfl (a0v he rfl (cg1 3 _ rfl)) ?_;refine dG 2 1 ?_;obtain⟨b113,o113,w113,e113,c113,r113⟩:=RdA.at_ hA3 (i:=i) hlt;obtain rfl:=r113;refine dG 3 4 ?_;refine a0F 7 rfl rfl (by kernel_rfl) rfl .slnil rfl (a0v he rfl (cg1 3 _ rfl)) ?_;refine dG 8 1 ?_;obtain⟨b119,o119,w119,e119,c119,r119⟩:=RdA.at_ hA3 (i:=i) hlt;obtain rfl:=r119;refine dH 9 3 ?_;refine go 1 fun v122=>?_
          refine a0i (l:=[b.conc[i].part,b.conc[i].rule]) rfl rfl ((a6j [b.conc[i].part,b.conc[i].rule])) fun I122 j122 R122=>?_
          try have hA1:=hA1.le j122
          try have hA2:=hA2.le j122
          try have hA3:=hA3.le j122
          try have hA5:=hA5.le j122
          try have cg1:=cg1.le j122
          try have hb0:=hb0.le j122
          try have hb4:=hb4.le j122
          refine dH 13 0 ?_;refine a0T (a7Q _ _ _ R122) rfl rfl fun v123 q123=>?_;obtain⟨b123,rfl⟩:=q123;refine dG 14 1 ?_;refine gC 2 (fun h124 p124=>?_) fun h124 p124=>?_
          ·refine go 12 ?_;exact q_i ⟨false,rfl,fun h=>by cases h⟩
          ·refine go 9 ?_;exact a0o (i+1) (I122) ⟨oM,hJ2.trans j122⟩ oM rfl sb rfl
         ·refine go 12 ?_
          refine a0B ((0:Nat)) (J2) (fun i J3=>J3)
           (fun i J3=>[(1,.pointer (some ⟨g1,0,none⟩)),(6,.int .i64 ((i:Nat):Int))])
           (fun i J3=>[])
           (fun i J3=>i≤b.holds.length∧ILe J2 J3)
           (fun i J3=>b.holds.length-i) ⟨Nat.zero_le _,ILe.refl _⟩ rfl sb rfl ?_
          intro i J3 ⟨hi,hJ3⟩;have hA1:=hA1.le hJ3;have hA2:=hA2.le hJ3;have hA3:=hA3.le hJ3;have hA5:=hA5.le hJ3;have cg1:=cg1.le hJ3;refine go 5 ?_;refine o_v rfl (a0v he rfl (cg1 5 _ rfl)) ?_;refine gC 4 (fun h129 p129=>?_) fun h129 p129=>?_
          ·have hlt:i<b.holds.length:=oM;have cg1o:=cg1;have hA5o:=hA5;refine go 5 ?_;refine a1P fun hE21 hf21=>?_;refine go 1 ?_;refine dG 0 1 ?_;refine a0F 1 rfl rfl (by kernel_rfl) rfl .slnil rfl (a0v he rfl (cg1 5 _ rfl)) ?_;refine dG 2 1 ?_;obtain⟨b135,o135,w135,e135,c135,r135⟩:=RdA.at_ hA5 (i:=i) hlt;obtain⟨_,_,rfl,⟨MA,mc,rfl,_,_,_⟩,⟨MB,md,rfl,_,_,_⟩⟩:=r135;refine dG 3 4 ?_;refine a0F 7 rfl rfl (by kernel_rfl) rfl .slnil rfl (a0v he rfl (cg1 5 _ rfl)) ?_;refine dG 8 1 ?_;obtain⟨b141,o141,w141,e141,c141,r141⟩:=RdA.at_ hA5 (i:=i) hlt;obtain⟨_,_,rfl,⟨MA,mc,rfl,_,_,_⟩,⟨MB,md,rfl,_,_,_⟩⟩:=r141;refine dH 9 3 ?_;refine go 1 fun v144=>?_
           refine a0i (l:=[b.holds[i].id,b.holds[i].vehicle]) rfl rfl ((a6j [b.holds[i].id,b.holds[i].vehicle])) fun I144 j144 R144=>?_
           try have hA1:=hA1.le j144
           try have hA2:=hA2.le j144
           try have hA3:=hA3.le j144
           try have hA5:=hA5.le j144
           try have cg1:=cg1.le j144
           try have hb0:=hb0.le j144
           try have hb4:=hb4.le j144
           refine dH 13 0 ?_;refine a0T (a7Q _ _ _ R144) rfl rfl fun v145 q145=>?_;obtain⟨b145,rfl⟩:=q145;refine dG 14 2 ?_;refine gS 0 147 (fun h147 p147=>?_) fun h147 p147=>?_
           ·refine dG 16 19 ?_;refine go 15 ?_;exact q_i ⟨false,rfl,fun h=>by cases h⟩
           ·refine dG 16 1 ?_;refine d_t 17 rfl rfl (by kernel_rfl) rfl (fun _ m=>m.keepsI .slnil (j144) hE21 hf21) (a1O rfl rfl h147 (a0v he rfl (cg1o 5 _ rfl))) ?_;refine dG 18 1 ?_;obtain⟨b151,o151,w151,e151,c151,r151⟩:=RdA.at_ hA5o (i:=i) hlt;obtain⟨_,_,rfl,⟨MA,mc,rfl,_,_,_⟩,⟨MB,md,rfl,_,_,_⟩⟩:=r151;refine dG 19 7 ?_;refine gS 0 157 (fun h157 p157=>?_) fun h157 p157=>?_
            ·refine dG 26 9 ?_;refine go 15 ?_;exact q_i ⟨false,rfl,fun h=>by cases h⟩
            ·refine dG 26 1 ?_;refine d_t 27 rfl rfl (by kernel_rfl) rfl (fun _ m=>m.keepsI .slnil (j144) hE21 hf21) (a1O rfl rfl h157 (a0v he rfl (cg1o 5 _ rfl))) ?_;refine dG 28 1 ?_;obtain⟨b161,o161,w161,e161,c161,r161⟩:=RdA.at_ hA5o (i:=i) hlt;obtain⟨_,_,rfl,⟨MA,mc,rfl,_,_,_⟩,⟨MB,md,rfl,_,_,_⟩⟩:=r161;refine dG 29 6 ?_;refine gC 2 (fun h166 p166=>?_) fun h166 p166=>?_
             ·refine go 12 ?_;exact q_i ⟨false,rfl,fun h=>by cases h⟩
             ·refine go 9 ?_;exact a0o (i+1) (I144) ⟨oM,hJ3.trans j144⟩ oM rfl sb rfl
          ·refine go 12 ?_;exact q_i ⟨true,rfl,fun _=>hfb⟩
end Go.Proofs.YtgmkjpafapgccaaGreat
set_option linter.all false
namespace Go.Sx
open Go
abbrev xoC:ByteArray:=⟨#[99]⟩
abbrev xoV:ByteArray:=⟨#[118]⟩
abbrev xoW:ByteArray:=⟨#[119]⟩
abbrev xoWs:ByteArray:=⟨#[119,104,101,101,108,115,101,116]⟩
abbrev c9B:ByteArray:=⟨#[97,120,108,101]⟩
abbrev c8B:ByteArray:=⟨#[102,114,111,110,116]⟩
abbrev d8i:ByteArray:=⟨#[114,101,97,114]⟩
def woF:Fm:=.mk 5 0 [.mk 2 0 [],.mk 4 0 []]
def d3j (n k:ByteArray):Slot:=⟨n,[k],1⟩
def woC:List Kind:=[⟨c9B,false,[]⟩,⟨xoWs,false,[d3j c9B c9B]⟩,⟨b2i,true,[d3j c8B xoWs,d3j d8i xoWs]⟩]
def b5I (p k:ByteArray):Evt:=⟨1,0,p,k,a0M,a0M,a0M,a0M,c8D⟩
def c5a (d:Int) (p i s:ByteArray):Evt:=⟨2,d,p,a0M,i,s,a0M,a0M,c8D⟩
def d3b (d:Int) (v:ByteArray) (a b:Int):Evt:=⟨4,d,v,a0M,a0M,a0M,a0M,a0M,⟨⟨a,b⟩,⟨0,0⟩,⟨1,1⟩⟩⟩
def woL:List Rep:=[⟨[b5I xoC b2i],false⟩,⟨[b5I xoV xoWs],false⟩,⟨[b5I xoW xoWs],false⟩,⟨[c5a 5 xoW xoC c8B,c5a 5 xoV xoC c8B],false⟩,⟨[d3b 6 xoC 10 12],false⟩]
def woR (k:Int):Rul:=⟨nR,xoWs,.mk 5 sKm a0M k 0 []⟩
theorem a8j {I:IMap} {sf:Value} (h:RdS I sf [(.mk 2 0 []:Fm),.mk 4 0 []]):FmRd I [ci woF.op,ci woF.n,sf] woF:=fm_in 5 0 h
theorem a8k:SmC woC:=c2g (by decide +kernel)
theorem c5d:a2o woC woL=[[0,0,0,0,0],[0,0,0,1,0]]:=by decide +kernel
theorem b1t:(runL woF woC [] 0).2.2=0:=by rw[c4b (r:=([],-1,0)) (by decide +kernel)]
theorem b5J:(woL.any fun r=>!a0g r)=false:=by decide +kernel
theorem d6m:ftsF woF woC (fgB [woR 12] []) woL xoC 9 [0,0,0,0,0]=[]:=c3h (by decide +kernel) (by decide +kernel)
theorem d6n:ftsF woF woC (fgB [woR 12] []) woL xoC 9 [0,0,0,1,0]=[]:=c3h (by decide +kernel) (by decide +kernel)
theorem d6l:ftsF woF woC (fgB [woR 11] []) woL xoC 9 [0,0,0,0,0]=[⟨1,xoW,nR⟩]:=c3h (by decide +kernel) (by decide +kernel)
theorem d6q:(decR woF woC (fgB [woR 12] []) woL woL xoC 9).kind=1:=b7M b1t b5J (by rw[c5d];simp[List.find?,d6m,d6n])
theorem d6r:(decR woF woC (fgB [woR 11] []) woL woL xoC 9).kind=2:=b7M b1t b5J (by rw[c5d];simp[List.find?,d6l])
theorem c5b {R:Nat→Nat} (hR:Rts woL R):a0D woL R xoC=woL:=by
 have h3:R 3=R 0:=hR.share (l:=woL) (i:=3) (k:=0) (z:=xoC) (by decide) (by decide) (a4i.1 (by decide +kernel)) (a4i.1 (by decide +kernel));have h4:R 4=R 0:=hR.share (l:=woL) (i:=4) (k:=0) (z:=xoC) (by decide) (by decide) (a4i.1 (by decide +kernel)) (a4i.1 (by decide +kernel));have h1:R 1=R 3:=hR.share (l:=woL) (i:=1) (k:=3) (z:=xoV) (by decide) (by decide) (a4i.1 (by decide +kernel)) (a4i.1 (by decide +kernel));have h2:R 2=R 3:=hR.share (l:=woL) (i:=2) (k:=3) (z:=xoW) (by decide) (by decide) (a4i.1 (by decide +kernel)) (a4i.1 (by decide +kernel));refine c9F hR (fun i hi=>?_) (k:=0) (by decide) (a4i.1 (by decide +kernel))
 match i,hi with
 |0,_=>rfl
 |1,_=>exact h1.trans h3
 |2,_=>exact h2.trans h3
 |3,_=>exact h3
 |4,_=>exact h4
 |n+5,hi=>exact absurd hi (by show ¬n+5<5;omega)
theorem b3R:∀r∈woL,∀e∈r.options,SmE e:=by
 intro r hr e he
 simp only[woL,List.mem_cons,List.not_mem_nil,or_false]at hr
 rcases hr with rfl|rfl|rfl|rfl|rfl<;>simp only[List.mem_cons,List.not_mem_nil,or_false]at he
 ·subst he;exact⟨by decide,by decide,by decide,by decide,by decide,by decide⟩
 ·subst he;exact⟨by decide,by decide,by decide,by decide,by decide,by decide⟩
 ·subst he;exact⟨by decide,by decide,by decide,by decide,by decide,by decide⟩
 ·rcases he with rfl|rfl<;>exact⟨by decide,by decide,by decide,by decide,by decide,by decide⟩
 ·subst he;exact⟨by decide,by decide,by decide,by decide,by decide,by decide⟩
theorem a6k:a3O woL≤2000:=by decide +kernel
theorem d6i (k:Int) (h:I64 k):b2J (woR k):=⟨show nR.size≤9223372036854775807 by decide,show xoWs.size≤9223372036854775807 by decide,.mk ⟨by decide,by decide⟩ h ⟨by decide,by decide⟩ (by decide) (by decide) fun _ h=>by cases h⟩
theorem a8i (k:Int) (h:I64 k):OkBok (fgB [woR k] []):=d4j (fun r hr=>by rw[List.mem_singleton.1 hr];exact d6i k h) (show 1≤100 by decide)
section
variable {R:Nat→Nat} (hR:Rts woL R)
include hR
theorem d6o:(decR woF woC (fgB [woR 12] []) woL (a0D woL R xoC) xoC 9).kind=1:=by rw[c5b hR];exact d6q
theorem d6p:(decR woF woC (fgB [woR 11] []) woL (a0D woL R xoC) xoC 9).kind=2:=by rw[c5b hR];exact d6r
theorem d8f:accF woF woC (fgB [woR 12] []) woL (a0D woL R xoC) xoC 9 (decR woF woC (fgB [woR 12] []) woL (a0D woL R xoC) xoC 9)=true:=c0Z b1t b5J a6k
theorem d8g:accF woF woC (fgB [woR 11] []) woL (a0D woL R xoC) xoC 9 (decR woF woC (fgB [woR 11] []) woL (a0D woL R xoC) xoC 9)=true:=c0Z b1t b5J a6k
theorem d8h:accF woF woC (fgB [woR 11] []) woL (a0D woL R xoC) xoC 9 (decR woF woC (fgB [woR 12] []) woL (a0D woL R xoC) xoC 9)=false:=by
 cases h:accF woF woC (fgB [woR 11] []) woL (a0D woL R xoC) xoC 9 (decR woF woC (fgB [woR 12] []) woL (a0D woL R xoC) xoC 9) with
 |false=>rfl
 |true=>have h1:=c5q b1t b5J h;rw[d6o hR,d6p hR]at h1;exact absurd h1 (by decide)
end
structure Hst (c:List Kind) (l:List Rep) (k:Nat) (b:Bool) (ch:List Int) (out:List (List Int)):Prop where
 is:out=((a1Q l).take k).filter (isF c l)
 at_:(b=true∧∃h:k<(a1Q l).length,ch=(a1Q l)[k])∨(b=false∧k=(a1Q l).length)
section
variable {c:List Kind} {l:List Rep} {k:Nat} {b:Bool} {ch:List Int} {out:List (List Int)}
theorem Hst.evy (h:Hst c l k b ch out):Evy c l (out.length:Int) k b ch out:=⟨h.is,Int.le_refl _,h.at_⟩
theorem Hst.start (hp:∀r∈l,chs r≠0):Hst c l 0 true (a3a l.length) []:=by
 have h:=Evy.start (c:=c) (most:=1) hp (Int.le_refl _);exact⟨h.is,h.at_⟩
theorem Hst.mem (h:Hst c l k true ch out):ch∈a1Q l:=h.evy.mem
theorem Hst.lt (h:Hst c l k true ch out):k<(a1Q l).length:=h.evy.lt
theorem Hst.yes (hp:∀r∈l,chs r≠0) (h:Hst c l k true ch out) (hi:isF c l ch=true):Hst c l (k+1) (a2h l ch).2 (a2h l ch).1 (out++[ch]):=by
 have h1:Evy c l ((out.length:Int)+1) k true ch out:=⟨h.is,oM,h.at_⟩;have h2:=h1.yes hp oM hi;exact⟨h2.is,h2.at_⟩
theorem Hst.no (hp:∀r∈l,chs r≠0) (h:Hst c l k true ch out) (hi:isF c l ch=false):Hst c l (k+1) (a2h l ch).2 (a2h l ch).1 out:=by
 have h2:=h.evy.no hp hi;exact⟨h2.is,h2.at_⟩
theorem Hst.end_ (h:Hst c l k false ch out):out=a1S c l:=by
 rcases h.at_ with ⟨h1,_⟩|⟨_,rfl⟩
 ·cases h1
 ·rw[h.is,List.take_length];rfl
theorem Hst.le (h:Hst c l k b ch out):out.length≤(a1Q l).length:=by
 rw[h.is];exact Nat.le_trans (List.length_filter_le _ _) (by rw[List.length_take];omega)
theorem c9T (hv:∀r∈l,a0g r=true):∀r∈l,chs r≠0:=fun r hr=>by have:=a5S (hv r hr);omega
end
end Go.Sx
namespace Go.Proofs.YtgmkjpafapgccaaGreat
open Go Go.Sx Tryz
set_option linter.all false
set_option maxRecDepth 20000
set_option maxHeartbeats 4000000
instance:Has (plK prog 109) [(0,1),(1,1)]:=hk
instance:Has (plK prog 24) [(0,1)]:=hk
instance:Has (plK prog 27) [(0,1),(1,1),(2,1)]:=hk
instance:Has (plK prog 29) [(0,1),(1,3)]:=hk
instance:Has (plK prog 56) [(0,1),(1,1),(2,1),(3,1),(4,1),(5,1)]:=hk
instance:Has (a1o prog 24) [.slice none 0 0]:=hk
instance:Has (a1o prog 29) [.slice none 0 0,.int .i64 0,.int .i64 0,.slice none 0 0]:=hk
instance:Has (a1o prog 56) [.slice none 0 0,.slice none 0 0,.slice none 0 0,.slice none 0 0,.slice none 0 0,.slice none 0 0]:=hk
theorem c5c (I:IMap) (n k:ByteArray) :
    FnI prog 111 #[.string n,.string k] I (fun u J=>∃s,u = .agg #[.string n,s,.int .i64 (1)]∧RdS J s [k]):=by
 refine enter func111 call111 rfl ntmps111 rfl fun w0=>?_;refine go 4 fun g4=>?_
 refine go 8 fun v7=>?_
 refine a0i (l:=[k]) rfl rfl ((.one rfl)) fun I7 j7 R7=>?_;obtain⟨A7,c7,rfl,_,_,_⟩:=id R7;refine go 7 ?_;exact q_i ⟨_,rfl,R7⟩
theorem c9z (I:IMap) (d:Int) (p i s:ByteArray) :
    FnV prog 113 #[.int .i64 (d),.string p,.string i,.string s] I (.agg (c5a d p i s).cells.toArray):=by
 refine enter func113 call113 rfl ntmps113 rfl fun w0=>?_;refine go 4 fun g8=>?_
 refine go 15 ?_;exact q_v rfl
theorem d6j (I:IMap) (d:Int) (v:ByteArray) (a b:Int) :
    FnV prog 114 #[.int .i64 (d),.string v,.int .i64 (a),.int .i64 (b)] I (.agg (d3b d v a b).cells.toArray):=by
 refine enter func114 call114 rfl ntmps114 rfl fun w0=>?_;refine go 4 fun g8=>?_
 refine go 18 ?_;exact q_v rfl
theorem b7p (I:IMap) (p k:ByteArray) :
    FnI prog 112 #[.string p,.string k] I (fun u J=>∃A n,u = .agg #[.slice A 1 n,.bool false]∧RdS J (.slice A 1 n) [b5I p k]):=by
 refine enter func112 call112 rfl ntmps112 rfl fun w0=>?_;refine go 4 fun g4=>?_
 refine go 9 fun v8=>?_
 refine a0i (l:=[b5I p k]) rfl rfl ((.one rfl)) fun I8 j8 R8=>?_;obtain⟨A8,c8,rfl,_,_,_⟩:=id R8;refine go 7 ?_;exact q_i ⟨_,_,rfl,R8⟩
theorem b1s (I:IMap) (k:Int) :
    FnI prog 50 #[.int .i64 (k)] I (fun q J=>∃A n,q = .agg #[.slice A 1 n,.slice none 0 0,.slice none 0 0,.slice none 0 0,.slice none 0 0,.slice none 0 0]∧RdS J (.slice A 1 n) [woR k]):=by
 refine enter func50 call50 rfl ntmps50 rfl fun w0=>?_;refine go 4 fun g2=>?_
 refine go 9 fun v6=>?_
 refine a0i (l:=[woR k]) rfl rfl ((.one ⟨_,rfl,RdS.nil'⟩)) fun I6 j6 R6=>?_;obtain⟨A6,c6,rfl,_,_,_⟩:=id R6;refine go 7 ?_;exact q_i ⟨_,_,rfl,R6⟩
theorem d3c (I:IMap) :
    FnI prog 48 #[] I (fun u J=>∃vc sf,u = .agg #[vc,.int .i64 (5),.int .i64 (0),sf]∧RdS J vc woC∧RdS J sf [(.mk 2 0 []:Fm),.mk 4 0 []]):=by
 refine enter func48 call48 rfl ntmps48 rfl fun w0=>?_;refine go 4 fun g0=>?_
 refine go 12 ?_;refine a0m (c5c _ c9B c9B) rfl rfl fun v5 I5 j5 q5=>?_
 try have q5:=q5.le j5
 try have q9:=q9.le j5
 try have q11:=q11.le j5
 try have R6:=R6.le j5
 try have R12:=R12.le j5
 try have R14:=R14.le j5
 obtain⟨s5,rfl,q5⟩:=q5;obtain⟨A5,c5,rfl,_,_,_⟩:=id q5;refine go 2 fun v6=>?_
 refine a0i (l:=[d3j c9B c9B]) rfl rfl ((.one ⟨_,rfl,q5⟩)) fun I6 j6 R6=>?_
 try have q5:=q5.le j6
 try have q9:=q9.le j6
 try have q11:=q11.le j6
 try have R6:=R6.le j6
 try have R12:=R12.le j6
 try have R14:=R14.le j6
 obtain⟨A6,c6,rfl,_,_,_⟩:=id R6;refine go 3 ?_;refine a0m (c5c _ c8B xoWs) rfl rfl fun v9 I9 j9 q9=>?_
 try have q5:=q5.le j9
 try have q9:=q9.le j9
 try have q11:=q11.le j9
 try have R6:=R6.le j9
 try have R12:=R12.le j9
 try have R14:=R14.le j9
 obtain⟨s9,rfl,q9⟩:=q9;obtain⟨A9,c9,rfl,_,_,_⟩:=id q9;refine go 2 ?_;refine a0m (c5c _ d8i xoWs) rfl rfl fun v11 I11 j11 q11=>?_
 try have q5:=q5.le j11
 try have q9:=q9.le j11
 try have q11:=q11.le j11
 try have R6:=R6.le j11
 try have R12:=R12.le j11
 try have R14:=R14.le j11
 obtain⟨s11,rfl,q11⟩:=q11;obtain⟨A11,c11,rfl,_,_,_⟩:=id q11;refine go 2 fun v12=>?_
 refine a0i (l:=[d3j c8B xoWs,d3j d8i xoWs]) rfl rfl ((.cons ⟨_,rfl,q9⟩ (.one ⟨_,rfl,q11⟩))) fun I12 j12 R12=>?_
 try have q5:=q5.le j12
 try have q9:=q9.le j12
 try have q11:=q11.le j12
 try have R6:=R6.le j12
 try have R12:=R12.le j12
 try have R14:=R14.le j12
 obtain⟨A12,c12,rfl,_,_,_⟩:=id R12;refine go 3 fun v14=>?_
 refine a9J (ys:=[.string c9B,.bool false,.slice none 0 0]++([.string xoWs,.bool false,.slice A6 1 c6]++[.string b2i,.bool true,.slice A12 2 c12])) (rfl) ?_;refine a0i (l:=woC) rfl rfl ((.cons ⟨_,rfl,RdS.nil'⟩ (.cons ⟨_,rfl,R6⟩ (.one ⟨_,rfl,R12⟩)))) fun I14 j14 R14=>?_
 try have q5:=q5.le j14
 try have q9:=q9.le j14
 try have q11:=q11.le j14
 try have R6:=R6.le j14
 try have R12:=R12.le j14
 try have R14:=R14.le j14
 obtain⟨A14,c14,rfl,_,_,_⟩:=id R14;refine go 3 fun g2=>?_
 refine go 11 fun v19=>?_
 refine a0i (l:=[(.mk 2 0 []:Fm),.mk 4 0 []]) rfl rfl ((.cons (fm_in 2 0 RdS.nil') (.one (fm_in 4 0 RdS.nil')))) fun I19 j19 R19=>?_
 try have q5:=q5.le j19
 try have q9:=q9.le j19
 try have q11:=q11.le j19
 try have R6:=R6.le j19
 try have R12:=R12.le j19
 try have R14:=R14.le j19
 obtain⟨A19,c19,rfl,_,_,_⟩:=id R19;refine go 3 ?_;refine a0b ?_;refine go 5 ?_;exact q_i ⟨_,_,rfl,R14,R19⟩
theorem d6k (I:IMap) :
    FnI prog 49 #[] I (fun u J=>RdS J u woL):=by
 refine enter func49 call49 rfl ntmps49 rfl fun w0=>?_;refine go 8 ?_;refine a0m (b7p _ xoC b2i) rfl rfl fun v1 I1 j1 q1=>?_
 try have q1:=q1.le j1
 try have q2:=q2.le j1
 try have q3:=q3.le j1
 try have R6:=R6.le j1
 try have R9:=R9.le j1
 obtain⟨A1,n1,rfl,q1⟩:=q1;refine go 1 ?_;refine a0m (b7p _ xoV xoWs) rfl rfl fun v2 I2 j2 q2=>?_
 try have q1:=q1.le j2
 try have q2:=q2.le j2
 try have q3:=q3.le j2
 try have R6:=R6.le j2
 try have R9:=R9.le j2
 obtain⟨A2,n2,rfl,q2⟩:=q2;refine go 1 ?_;refine a0m (b7p _ xoW xoWs) rfl rfl fun v3 I3 j3 q3=>?_
 try have q1:=q1.le j3
 try have q2:=q2.le j3
 try have q3:=q3.le j3
 try have R6:=R6.le j3
 try have R9:=R9.le j3
 obtain⟨A3,n3,rfl,q3⟩:=q3;refine go 1 ?_;refine cV (c9z _ 5 xoW xoC c8B) ?_;refine go 1 ?_;refine cV (c9z _ 5 xoV xoC c8B) ?_;refine go 2 fun v6=>?_
 refine a0i (l:=[c5a 5 xoW xoC c8B,c5a 5 xoV xoC c8B]) rfl rfl ((.cons rfl (.one rfl))) fun I6 j6 R6=>?_
 try have q1:=q1.le j6
 try have q2:=q2.le j6
 try have q3:=q3.le j6
 try have R6:=R6.le j6
 try have R9:=R9.le j6
 obtain⟨A6,c6,rfl,_,_,_⟩:=id R6;refine go 2 ?_;refine cV (d6j _ 6 xoC 10 12) ?_;refine go 2 fun v9=>?_
 refine a0i (l:=[d3b 6 xoC 10 12]) rfl rfl ((.one rfl)) fun I9 j9 R9=>?_
 try have q1:=q1.le j9
 try have q2:=q2.le j9
 try have q3:=q3.le j9
 try have R6:=R6.le j9
 try have R9:=R9.le j9
 obtain⟨A9,c9,rfl,_,_,_⟩:=id R9;refine go 3 fun v11=>?_
 refine a9J (ys:=[.slice A1 1 n1,.bool false]++([.slice A2 1 n2,.bool false]++([.slice A3 1 n3,.bool false]++([.slice A6 2 c6,.bool false]++[.slice A9 1 c9,.bool false])))) (rfl) ?_;refine a0i (l:=woL) rfl rfl ((.cons ⟨_,rfl,q1⟩ (.cons ⟨_,rfl,q2⟩ (.cons ⟨_,rfl,q3⟩ (.cons ⟨_,rfl,R6⟩ (.one ⟨_,rfl,R9⟩)))))) fun I11 j11 R11=>?_
 try have q1:=q1.le j11
 try have q2:=q2.le j11
 try have q3:=q3.le j11
 try have R6:=R6.le j11
 try have R9:=R9.le j11
 obtain⟨A11,c11,rfl,_,_,_⟩:=id R11;refine go 5 ?_;exact q_i R11
theorem d8d (I:IMap) (vc:Value) (c:List Kind) (hvc:RdS I vc c) (f:Fm) (sf:Value) (hfm:FmRd I [ci f.op,ci f.n,sf] f) (v:Value) (l:List Rep) (hv:RdS I v l) (n:Int) (hn:n≤4096) :
    FnE prog 15 #[.agg #[vc,ci f.op,ci f.n,sf],v,.int .i64 (n)] I (fun u=>∃b:Bool,u = .bool b∧(b=true→b6c c f [] 0=true∧b9K l n=true)):=by
 refine enter func15 call15 rfl ntmps15 rfl fun w0=>?_;refine go 4 fun g3=>?_
 refine go 7 ?_;refine cV (c7z _ vc c hvc f sf hfm _ [] RdS.nil' 0) ?_;refine gS 1 9 (fun h9 p9=>?_) fun h9 p9=>?_
 ·refine go 3 ?_;refine a0n rfl rfl h9 (a0y (c7B _ v l hv n hn) rfl rfl ?_);refine go 6 ?_;exact q_e ⟨_,rfl,fun h=>⟨h9,h⟩⟩
 ·refine go 9 ?_;exact q_e ⟨_,rfl,fun h=>by cases h⟩
theorem d6f (I:IMap) (v0 v1 v2 v3 v4 v5:Value) (b:Bok) (hb:BokRd I v0 v1 v2 v3 v4 v5 b) (vn:ByteArray) :
    FnI prog 16 #[.agg #[v0,v1,v2,v3,v4,v5],.string vn] I (fun u J=>∃e:Bool,u = .bool e∧(e=true→FewBk b)):=by
 refine enter func16 call16 rfl ntmps16 rfl fun w0=>?_;refine go 4 fun g2=>?_
 refine go 7 ?_;refine a0m (c7D _ v0 v1 v2 v3 v4 v5 b hb) rfl rfl fun v6 I6 j6 q6=>?_;obtain⟨b6,rfl,hb6⟩:=q6;refine gS 1 7 (fun h7 p7=>?_) fun h7 p7=>?_
 ·refine go 9 ?_;exact q_i ⟨_,rfl,fun _=>hb6 h7⟩
 ·refine go 9 ?_;exact q_i ⟨_,rfl,fun h=>by cases h⟩
theorem d8e (I:IMap) (v:Value) (l:List Rep) (hv:RdS I v l) (hl:l.length≤1000000) (hsl:∀r∈l,∀e∈r.options,SmE e) (p:ByteArray) (R:Nat→Nat) (hR:Rts l R) :
    FnI prog 18 #[v,.string p] I (fun u J=>RdS J u (a0D l R p)):=by
 have hv0:=hv;obtain⟨A,c0,rfl,hA,hc,hm⟩:=hv;refine enter func18 call18 rfl ntmps18 rfl fun w0=>?_;refine go 7 ?_;refine a0E 109 2 ?_;refine go 8 ?_;refine a0m (c2M _ _ l hv0 hl hsl p R hR) rfl rfl fun v10 I10 j10 q10=>?_
 try have hv0:=hv0.le j10
 try have hA:=hA.le j10
 obtain⟨CA,cc,rfl,hCA,hcc,hcm⟩:=q10;rw[a4L]at hcc ⊢
 refine go 10 ?_
 refine a3A ((0:Nat)) (none) (0) ([]) (fun i A5 c5 xs=>I10)
  (fun i A5 c5 xs=>[(0,.slice A l.length c0),(5,.slice A5 i c5),(6,.slice CA (ofN l R p).length cc),(7,.int .i64 ((i:Nat):Int))])
  (fun i A5 c5 xs=>[.row (.slice A5 i c5) 109 2 i xs])
  (fun i A5 c5 xs=>i≤(ofN l R p).length∧Flat I10 xs (a5l l ((ofN l R p).take i)))
  (fun i A5 c5 xs=>(ofN l R p).length-i) ⟨Nat.zero_le _,.nil⟩ rfl sb rfl ?_
 intro i A5 c5 xs ⟨hi,hF⟩;refine gC 9 (fun h14 p14=>?_) fun h14 p14=>?_
 ·have hlt:i<(ofN l R p).length:=oM;have hcl:(ofN l R p)[i]<l.length:=b4X (List.getElem_mem hlt);have hcl2:=b0T (l:=l) (R:=R) (p:=p);have hcl3:(a0D l R p).length=(ofN l R p).length:=a5m fun i hi=>b4X hi
  refine go 8 ?_;obtain⟨b19,o19,w19,e19,c19,r19⟩:=RdA.at_ hCA (i:=i) (by first|exact hlt|(rw[a4L];exact hlt));rw[c2V hlt]at r19
  obtain rfl:=r19;refine o_v rfl (a0l he rfl rfl e19 (i) oM (by first|exact hlt|(rw[a4L];exact hlt))) ?_;refine go 1 ?_;refine o_v rfl (OV.cast (u:=.bool true) (b7l rfl rfl) (congrArg Value.bool (decide_eq_true oM))) ?_;refine go 3 ?_;obtain⟨b25,o25,w25,e25,c25,r25⟩:=RdA.at_ hCA (i:=i) (by first|exact hlt|(rw[a4L];exact hlt));rw[c2V hlt]at r25
  obtain rfl:=r25;refine a0z (a0n rfl rfl rfl (a0q rfl (a0l he rfl rfl e25 (i) oM (by first|exact hlt|(rw[a4L];exact hlt))) ?_));refine go 3 ?_;refine a0z (a0n rfl rfl rfl (a0q rfl (OV.cast (u:=.bool true) (b7m rfl rfl) (congrArg Value.bool (decide_eq_true oM))) ?_));refine go 9 ?_;obtain⟨b35,o35,w35,e35,c35,r35⟩:=RdA.at_ hCA (i:=i) (by first|exact hlt|(rw[a4L];exact hlt));rw[c2V hlt]at r35
  obtain rfl:=r35;refine o_v rfl (a0l he rfl rfl e35 (i) oM (by first|exact hlt|(rw[a4L];exact hlt))) ?_;refine go 1 ?_;obtain⟨b37,o37,w37,e37,c37,r37⟩:=RdA.at_ hA (i:=(ofN l R p)[i]) hcl;obtain⟨q37,rfl,S37,d37,rfl,hS37,hd37,hm37⟩:=r37;refine o_v rfl (a0l he rfl rfl e37 ((ofN l R p)[i]) oM hcl) ?_;refine go 3 fun v39=>?_
  refine go 1 ?_;refine a0b ?_;refine a0O he he rfl rfl rfl rfl rfl oM oM rfl fun v40=>?_;refine a1c fun A40 c40 hv40=>?_;subst hv40;refine go 10 ?_;refine a0b ?_;refine a0a ?_;exact a1G (i+1) (_) (_) (_) ⟨oM,by rw[a7N hlt hcl];exact hF.append (.one ⟨_,rfl,⟨_,_,rfl,hS37,hd37,hm37⟩⟩)⟩ oM rfl sb rfl
 ·obtain rfl:i=(ofN l R p).length:=oM;rw[List.take_length]at hF
  have hcl2:=b0T (l:=l) (R:=R) (p:=p);have hcl3:(a0D l R p).length=(ofN l R p).length:=a5m fun i hi=>b4X hi
  refine a0i (l:=(a0D l R p)) rfl hcl3.symm hF fun I9 j9 Ro=>?_;rw[←hcl3]at Ro ⊢
  refine go 13 ?_;exact q_i Ro
theorem b5m (I:IMap) (v:Value) (l:List Rep) (hv:RdS I v l) (hl:l.length≤1000000) (hsl:∀r∈l,∀e∈r.options,SmE e) (w:Value) (t:List Int) (hw:RdS I w t) (ht:t∈a1Q l) :
    FnI prog 65 #[v,w] I (fun u J=>∃z,u = .tuple #[z,.bool (a2h l t).2]∧RdS J z (a2h l t).1):=by
 have htl:=(a9R.1 ht).1;have htb:=(a9R.1 ht).2;have hv0:=hv;obtain⟨A,c0,rfl,hA,hc,hm⟩:=hv;refine enter func65 call65 rfl ntmps65 rfl fun w0=>?_;refine go 10 fun v8=>?_
 refine go 2 ?_;refine a2q (hw) rfl he he rfl rfl rfl rfl oM oM rfl fun v10 x10 f10=>?_;refine go 13 ?_
 refine a3A (l.length) (_) (_) (t) (fun j v6 xs m=>I)
  (fun j v6 xs m=>[(0,.slice A l.length c0),(6,v6),(7,.int .i64 (((j:Nat):Int)-1))])
  (fun j v6 xs m=>[.row v6 3 1 (0+t.length) xs])
  (fun j v6 xs m=>j≤l.length∧Flat I xs m∧m=t.take j++a3a (l.length-j)∧a2h (l.drop j) (t.drop j)=(a3a (l.length-j),false))
  (fun j v6 xs m=>j) ⟨Nat.le_refl _,f10,by simp[a3a,←htl],by simp[a2h,a3a]⟩ rfl sb rfl ?_
 intro j v6 xs m ⟨hj,hF,hm,hnx⟩;refine gC 7 (fun h15 p15=>?_) fun h15 p15=>?_
 ·have hj0:0<j:=oM;obtain⟨hjm,hmj⟩:=d4D hm hj0 hj htl;have hml:m.length=l.length:=by rw[hm];simp[a3a];omega
  have hb:=htb (j-1) oM oM;have hc5:=a6m l[j-1];refine d2G hF rfl oM oM fun g15 cap15 rest15 xss15 hv15 hC15 hR15 hc15 hl15=>?_;subst hv15;refine go 7 ?_;refine dG 0 2 ?_;refine a0F 2 rfl rfl (by kernel_rfl) rfl (.refl _) rfl (a0l he rfl rfl rfl (j-1) oM oM) ?_;refine a0F 3 rfl rfl (by kernel_rfl) rfl (.refl _) rfl (OV.cast (u:=.int .i64 t[j-1]) (a5P m0 (Uk.append (show Uk 1 xss15 from hC15.uk) hR15) he rfl (j-1) oM (d4i hC15 oM)) (congrArg (Value.int .i64) hmj)) ?_;refine dG 4 3 ?_;obtain⟨b25,o25,w25,e25,c25,r25⟩:=RdA.at_ hA (i:=j-1) oM;obtain⟨q25,rfl,S25,d25,rfl,hS25,hd25,hm25⟩:=r25;refine a0F 7 rfl rfl (by kernel_rfl) rfl (.refl _) rfl (a0l he rfl rfl e25 (j-1) oM oM) ?_;refine dH 8 1 ?_;refine cV (a9c _ l[j-1] S25 d25 ⟨_,_,rfl,hS25,hd25,hm25⟩ (hsl _ (List.getElem_mem oM))) ?_;refine dG 10 1 ?_;refine gC 2 (fun h28 p28=>?_) fun h28 p28=>?_
  ·refine go 4 ?_;refine o_v rfl (a0l he rfl rfl rfl (j-1) oM oM) ?_;refine o_v rfl (OV.cast (u:=.int .i64 t[j-1]) (a5P m0 (Uk.append (show Uk 1 xss15 from hC15.uk) hR15) he rfl (j-1) oM (d4i hC15 oM)) (congrArg (Value.int .i64) hmj)) ?_;refine go 1 ?_;refine o_v rfl (a0l he rfl rfl rfl (j-1) oM oM) ?_;refine go 1 ?_;refine a1U _ (j-1) (Uk.append (show Uk 1 xss15 from hC15.uk) hR15) he rfl rfl rfl rfl rfl oM (by rw[List.length_append,hC15.len];omega) ?_;refine b5x (l:=m) (t[j-1]+1) hC15 hR15 rfl oM oM hc15 hl15 rfl fun ws34 hF34=>?_;refine a0i (l:=(m.set (j-1) (t[j-1]+1))) rfl (by simp;omega) (hF34) fun I34 j34 R34=>?_;refine go 17 ?_;exact q_i ⟨_,by rw[b8w hm hj0 hj htl hnx p28],by rw[b8w hm hj0 hj htl hnx p28];exact R34⟩
  ·refine go 5 ?_;refine o_v rfl (a0l he rfl rfl rfl (j-1) oM oM) ?_;refine go 1 ?_;refine a1U _ (j-1) (Uk.append (show Uk 1 xss15 from hC15.uk) hR15) he rfl rfl rfl rfl rfl oM (by rw[List.length_append,hC15.len];omega) ?_;refine b5x (l:=m) (0) hC15 hR15 rfl oM oM hc15 hl15 rfl fun ws38 hF38=>?_;refine go 5 ?_;refine o_v rfl (OV.cast (u:=.int .i64 (((j-1:Nat):Int)-1)) (a1j rfl rfl ⟨oM,oM⟩) (congrArg (Value.int .i64) oM)) ?_;refine go 3 ?_;exact a1G (j-1) (_) (_) (m.set (j-1) 0) ⟨oM,hF38,(c2Y hm hj0 hj htl hnx p28).1,(c2Y hm hj0 hj htl hnx p28).2⟩ oM rfl sb rfl
 ·obtain rfl:j=0:=oM;have hm0:m=a3a l.length:=by simpa using hm
  have hn0:a2h l t=(m,false):=by rw[hm0];simpa using hnx
  have hml:m.length=t.length:=by rw[hm0];simp[a3a,htl]
  refine go 7 ?_;refine a0i (l:=m) rfl oM (hF) fun I39 j39 R39=>?_;refine go 7 ?_;exact q_i ⟨_,by rw[hn0],by rw[hn0];exact R39⟩
theorem d6h (I:IMap) (vc:Value) (c:List Kind) (hvc:RdS I vc c) (hsc:SmC c) (v:Value) (l:List Rep) (hv:RdS I v l) (hl:l.length≤1000000) (hsl:∀r∈l,∀e∈r.options,SmE e) (hP:∀r∈l,chs r≠0) (hw:a3O l≤4096) :
    FnI prog 19 #[.agg #[vc],v] I (fun u J=>RdS J u (a1S c l)):=by
 have hv0:=hv;obtain⟨A,c0,rfl,hA,hc,hm⟩:=hv;refine enter func19 call19 rfl ntmps19 rfl fun w0=>?_;refine go 4 fun g2=>?_
 refine go 5 ?_;refine a0E 45 1 ?_;refine go 8 ?_;refine a4x he he rfl rfl rfl oM oM rfl fun g10=>?_;refine a0A fun Ig10 jg10 cg10=>?_
 try have hvc:=hvc.le jg10
 try have hv0:=hv0.le jg10
 try have hA:=hA.le jg10
 try have h8:=h8.le jg10
 try have hF:=hF.le jg10
 refine go 10 ?_
 refine c1t ((0:Nat)) (_) ([]) ([]) (_) ((a3a l.length)) (true) (_) (fun k v5 xs out v6 ch b J=>J)
  (fun k v5 xs out v6 ch b J=>[(1,.slice A l.length c0),(2,.pointer (some ⟨g2,0,none⟩)),(5,v5),(6,v6),(7,.bool b)])
  (fun k v5 xs out v6 ch b J=>[.row v5 45 1 out.length xs,.blk g2 24 [vc]])
  (fun k v5 xs out v6 ch b J=>Hst c l k b ch out∧ILe Ig10 J∧RdS J v6 ch∧Flat J xs out)
  (fun k v5 xs out v6 ch b J=>(a1Q l).length-k) ⟨Hst.start hP,ILe.refl _,a5g (b0A l.length▸cg10) (by simp[a3a]) hl,.nil⟩ rfl sb rfl ?_
 intro k v5 xs out v6 ch b J ⟨hE,hJ,h8,hF⟩;have h8s:=h8;obtain⟨A8,c8,rfl,_,_,_⟩:=h8s;have hol:=hE.le;rw[a9Q]at hol
 have hvc:=hvc.le hJ;have hv0:=hv0.le hJ;have hA:=hA.le hJ;refine a1c fun A5 c5 hv5=>?_;subst hv5;refine gC 6 (fun h11 p11=>?_) fun h11 p11=>?_
 ·have hEt:Hst c l k true ch out:=by rw[←h11];exact hE
  refine go 10 ?_;refine a0m (d8q _ vc c hvc hsc _ l hv0 hl hsl _ ch h8) rfl rfl fun v15 I15 j15 q15=>?_
  try have hvc:=hvc.le j15
  try have hv0:=hv0.le j15
  try have hA:=hA.le j15
  try have h8:=h8.le j15
  try have hF:=hF.le j15
  obtain rfl:=q15;refine gC 2 (fun h15 p15=>?_) fun h15 p15=>?_
  ·refine go 5 fun v18=>?_
   refine go 1 ?_;refine a0b ?_;refine a0O he he rfl rfl rfl rfl rfl oM oM rfl fun v19=>?_;refine go 7 ?_;refine a0m (b5m _ _ l hv0 hl hsl _ ch h8 hEt.mem) rfl rfl fun v23 I23 j23 q23=>?_
   try have hvc:=hvc.le j23
   try have hv0:=hv0.le j23
   try have hA:=hA.le j23
   try have h8:=h8.le j23
   try have hF:=hF.le j23
   obtain⟨w23,rfl,hw23⟩:=q23;refine go 8 ?_;refine a0b ?_;refine a0a ?_;exact b6O (k+1) (_) (_) (out++[ch]) (_) ((a2h l ch).1) ((a2h l ch).2) (_) ⟨hEt.yes hP h15,hJ.trans (j15.trans j23),hw23,hF.append (.one ⟨_,rfl,h8⟩)⟩ (by have:=hEt.lt;omega) rfl sb (by first|rfl|(simp only[List.length_append];rfl))
  ·refine go 6 ?_;refine a0m (b5m _ _ l hv0 hl hsl _ ch h8 hEt.mem) rfl rfl fun v23 I23 j23 q23=>?_
   try have hvc:=hvc.le j23
   try have hv0:=hv0.le j23
   try have hA:=hA.le j23
   try have h8:=h8.le j23
   try have hF:=hF.le j23
   obtain⟨w23,rfl,hw23⟩:=q23;refine go 8 ?_;exact b6O (k+1) (_) (_) (out) (_) ((a2h l ch).1) ((a2h l ch).2) (_) ⟨hEt.no hP h15,hJ.trans (j15.trans j23),hw23,hF⟩ (by have:=hEt.lt;omega) rfl sb (by first|rfl|(simp only[List.length_append];rfl))
 ·refine go 7 ?_;refine a0i (l:=out) rfl rfl (hF) fun I26 j26 R26=>?_;refine go 6 ?_;exact q_i (by rw[←(show Hst c l k false ch out by rw[←h11];exact hE).end_];exact R26)
theorem d6g (I:IMap) :
    FnI prog 13 #[] I (fun u J=>u = .bool true):=by
 refine enter func13 call13 rfl ntmps13 rfl fun w0=>?_;refine go 8 ?_;refine a0m (d3c _) rfl rfl fun v5 I5 j5 q5=>?_
 try have hvc:=hvc.le j5
 try have hsf:=hsf.le j5
 try have hvl:=hvl.le j5
 try have hVa:=hVa.le j5
 try have hVb:=hVb.le j5
 try have h8:=h8.le j5
 try have h12:=h12.le j5
 try have h25:=h25.le j5
 try have h32:=h32.le j5
 try have h39:=h39.le j5
 obtain⟨vc,sf,rfl,hvc,hsf⟩:=q5;obtain⟨CA,cc,rfl,_,_,_⟩:=id hvc;obtain⟨FA,fc,rfl,_,_,_⟩:=id hsf;refine go 1 ?_;refine a0m (d6k _) rfl rfl fun v6 I6 j6 q6=>?_
 try have hvc:=hvc.le j6
 try have hsf:=hsf.le j6
 try have hvl:=hvl.le j6
 try have hVa:=hVa.le j6
 try have hVb:=hVb.le j6
 try have h8:=h8.le j6
 try have h12:=h12.le j6
 try have h25:=h25.le j6
 try have h32:=h32.le j6
 try have h39:=h39.le j6
 have hvl:=q6;obtain⟨LA,lc,rfl,_,_,_⟩:=id hvl;obtain⟨R,hR⟩:=b8P woL;refine go 2 fun g1=>?_
 refine go 6 ?_;refine b5T (Ix:=(fun J b3 k3 u3 t3=>J)) (Lx:=(fun J b3 k3 u3 t3=>[(1,.pointer (some ⟨g1,0,none⟩)),(2,.slice LA woL.length lc),(3,.pointer (some ⟨b3,0,none⟩))])) (Hx:=(fun J b3 k3 u3 t3=>[.blk b3 48 ((decR woF woC (fgB [woR 12] []) woL (a0D woL R xoC) xoC 9).cs k3 u3 t3),.blk g1 29 [.slice CA woC.length cc,.int .i64 (5),.int .i64 (0),.slice FA 2 fc]])) (p:=(fun J b3 k3 u3 t3=>ILe I6 J∧VdRd J k3 u3 t3 (decR woF woC (fgB [woR 12] []) woL (a0D woL R xoC) xoC 9))) ?_ ?_
 ·refine a1P fun hE2 hf2=>?_;refine go 1 ?_;refine dG 0 1 ?_;refine dG 2 1 ?_;refine dT2 1 4 ?_ ?_
  ·refine a0m (b1s _ 12) rfl rfl fun v8 I8 j8 q8=>?_
   try have hvc:=hvc.le j8
   try have hsf:=hsf.le j8
   try have hvl:=hvl.le j8
   try have hVa:=hVa.le j8
   try have hVb:=hVb.le j8
   try have h8:=h8.le j8
   try have h12:=h12.le j8
   try have h25:=h25.le j8
   try have h32:=h32.le j8
   try have h39:=h39.le j8
   obtain⟨A8,n8,rfl,h8⟩:=q8;refine go 1 ?_;refine dT2 3 4 ?_ ?_
   ·refine a0m (a4P _ _ woC hvc a8k woF _ (a8j hsf) _ woL hvl (by decide) b3R a6k R hR _ _ _ _ _ _ _ (a7q h8 RdS.nil') (a8i 12 ⟨by decide,by decide⟩) xoC 9) rfl rfl fun v10 I10 j10 q10=>?_
    try have hvc:=hvc.le j10
    try have hsf:=hsf.le j10
    try have hvl:=hvl.le j10
    try have hVa:=hVa.le j10
    try have hVb:=hVb.le j10
    try have h8:=h8.le j10
    try have h12:=h12.le j10
    try have h25:=h25.le j10
    try have h32:=h32.le j10
    try have h39:=h39.le j10
    obtain⟨k10,u10,t10,rfl,hV10⟩:=q10;refine dH 4 0 ?_;refine go 1 fun g3=>?_
    refine dH 5 0 ?_;refine a0Y _ he rfl rfl rfl rfl rfl (Enc.one (α:=Vdt) ⟨_,_,_,rfl,hV10⟩) ?_;refine go 3 ?_;exact a5C (_) (_) (_) (_) (_) ⟨j8.trans j10,hV10⟩ sb rfl rfl
   ·refine go 1 fun g3=>?_
    refine dH 3 0 ?_;refine a0m (a4P _ _ woC hvc a8k woF _ (a8j hsf) _ woL hvl (by decide) b3R a6k R hR _ _ _ _ _ _ _ (a7q h8 RdS.nil') (a8i 12 ⟨by decide,by decide⟩) xoC 9) rfl rfl fun v10 I10 j10 q10=>?_
    try have hvc:=hvc.le j10
    try have hsf:=hsf.le j10
    try have hvl:=hvl.le j10
    try have hVa:=hVa.le j10
    try have hVb:=hVb.le j10
    try have h8:=h8.le j10
    try have h12:=h12.le j10
    try have h25:=h25.le j10
    try have h32:=h32.le j10
    try have h39:=h39.le j10
    obtain⟨k10,u10,t10,rfl,hV10⟩:=q10;refine dH 5 0 ?_;refine a0Y _ he rfl rfl rfl rfl rfl (Enc.one (α:=Vdt) ⟨_,_,_,rfl,hV10⟩) ?_;refine go 3 ?_;exact a5C (_) (_) (_) (_) (_) ⟨j8.trans j10,hV10⟩ sb rfl rfl
  ·refine go 1 fun g3=>?_
   refine dH 1 0 ?_;refine a0m (b1s _ 12) rfl rfl fun v8 I8 j8 q8=>?_
   try have hvc:=hvc.le j8
   try have hsf:=hsf.le j8
   try have hvl:=hvl.le j8
   try have hVa:=hVa.le j8
   try have hVb:=hVb.le j8
   try have h8:=h8.le j8
   try have h12:=h12.le j8
   try have h25:=h25.le j8
   try have h32:=h32.le j8
   try have h39:=h39.le j8
   obtain⟨A8,n8,rfl,h8⟩:=q8;refine dH 3 0 ?_;refine a0m (a4P _ _ woC hvc a8k woF _ (a8j hsf) _ woL hvl (by decide) b3R a6k R hR _ _ _ _ _ _ _ (a7q h8 RdS.nil') (a8i 12 ⟨by decide,by decide⟩) xoC 9) rfl rfl fun v10 I10 j10 q10=>?_
   try have hvc:=hvc.le j10
   try have hsf:=hsf.le j10
   try have hvl:=hvl.le j10
   try have hVa:=hVa.le j10
   try have hVb:=hVb.le j10
   try have h8:=h8.le j10
   try have h12:=h12.le j10
   try have h25:=h25.le j10
   try have h32:=h32.le j10
   try have h39:=h39.le j10
   obtain⟨k10,u10,t10,rfl,hV10⟩:=q10;refine dH 5 0 ?_;refine a0Y _ he rfl rfl rfl rfl rfl (Enc.one (α:=Vdt) ⟨_,_,_,rfl,hV10⟩) ?_;refine go 3 ?_;exact a5C (_) (_) (_) (_) (_) ⟨j8.trans j10,hV10⟩ sb rfl rfl
 ·intro J b3 k3 u3 t3 ⟨hJ,hVa⟩;have hvc:=hvc.le hJ;have hsf:=hsf.le hJ;have hvl:=hvl.le hJ;refine go 1 ?_;refine b5T (Ix:=(fun J2 b4 k4 u4 t4=>J2)) (Lx:=(fun J2 b4 k4 u4 t4=>[(1,.pointer (some ⟨g1,0,none⟩)),(2,.slice LA woL.length lc),(3,.pointer (some ⟨b3,0,none⟩)),(4,.pointer (some ⟨b4,0,none⟩))])) (Hx:=(fun J2 b4 k4 u4 t4=>[.blk b4 48 ((decR woF woC (fgB [woR 11] []) woL (a0D woL R xoC) xoC 9).cs k4 u4 t4),.blk b3 48 ((decR woF woC (fgB [woR 12] []) woL (a0D woL R xoC) xoC 9).cs k3 u3 t3),.blk g1 29 [.slice CA woC.length cc,.int .i64 (5),.int .i64 (0),.slice FA 2 fc]])) (p:=(fun J2 b4 k4 u4 t4=>ILe J J2∧VdRd J2 k4 u4 t4 (decR woF woC (fgB [woR 11] []) woL (a0D woL R xoC) xoC 9))) ?_ ?_
  ·refine a1P fun hE3 hf3=>?_;refine go 1 ?_;refine dG 0 1 ?_;refine dG 2 1 ?_;refine dT2 1 4 ?_ ?_
   ·refine a0m (b1s _ 11) rfl rfl fun v12 I12 j12 q12=>?_
    try have hvc:=hvc.le j12
    try have hsf:=hsf.le j12
    try have hvl:=hvl.le j12
    try have hVa:=hVa.le j12
    try have hVb:=hVb.le j12
    try have h8:=h8.le j12
    try have h12:=h12.le j12
    try have h25:=h25.le j12
    try have h32:=h32.le j12
    try have h39:=h39.le j12
    obtain⟨A12,n12,rfl,h12⟩:=q12;refine go 1 ?_;refine dT2 3 4 ?_ ?_
    ·refine a0m (a4P _ _ woC hvc a8k woF _ (a8j hsf) _ woL hvl (by decide) b3R a6k R hR _ _ _ _ _ _ _ (a7q h12 RdS.nil') (a8i 11 ⟨by decide,by decide⟩) xoC 9) rfl rfl fun v14 I14 j14 q14=>?_
     try have hvc:=hvc.le j14
     try have hsf:=hsf.le j14
     try have hvl:=hvl.le j14
     try have hVa:=hVa.le j14
     try have hVb:=hVb.le j14
     try have h8:=h8.le j14
     try have h12:=h12.le j14
     try have h25:=h25.le j14
     try have h32:=h32.le j14
     try have h39:=h39.le j14
     obtain⟨k14,u14,t14,rfl,hV14⟩:=q14;refine dH 4 0 ?_;refine go 1 fun g4=>?_
     refine dH 5 0 ?_;refine a0Y _ he rfl rfl rfl rfl rfl (Enc.one (α:=Vdt) ⟨_,_,_,rfl,hV14⟩) ?_;refine go 3 ?_;exact a5C (_) (_) (_) (_) (_) ⟨j12.trans j14,hV14⟩ sb rfl rfl
    ·refine go 1 fun g4=>?_
     refine dH 3 0 ?_;refine a0m (a4P _ _ woC hvc a8k woF _ (a8j hsf) _ woL hvl (by decide) b3R a6k R hR _ _ _ _ _ _ _ (a7q h12 RdS.nil') (a8i 11 ⟨by decide,by decide⟩) xoC 9) rfl rfl fun v14 I14 j14 q14=>?_
     try have hvc:=hvc.le j14
     try have hsf:=hsf.le j14
     try have hvl:=hvl.le j14
     try have hVa:=hVa.le j14
     try have hVb:=hVb.le j14
     try have h8:=h8.le j14
     try have h12:=h12.le j14
     try have h25:=h25.le j14
     try have h32:=h32.le j14
     try have h39:=h39.le j14
     obtain⟨k14,u14,t14,rfl,hV14⟩:=q14;refine dH 5 0 ?_;refine a0Y _ he rfl rfl rfl rfl rfl (Enc.one (α:=Vdt) ⟨_,_,_,rfl,hV14⟩) ?_;refine go 3 ?_;exact a5C (_) (_) (_) (_) (_) ⟨j12.trans j14,hV14⟩ sb rfl rfl
   ·refine go 1 fun g4=>?_
    refine dH 1 0 ?_;refine a0m (b1s _ 11) rfl rfl fun v12 I12 j12 q12=>?_
    try have hvc:=hvc.le j12
    try have hsf:=hsf.le j12
    try have hvl:=hvl.le j12
    try have hVa:=hVa.le j12
    try have hVb:=hVb.le j12
    try have h8:=h8.le j12
    try have h12:=h12.le j12
    try have h25:=h25.le j12
    try have h32:=h32.le j12
    try have h39:=h39.le j12
    obtain⟨A12,n12,rfl,h12⟩:=q12;refine dH 3 0 ?_;refine a0m (a4P _ _ woC hvc a8k woF _ (a8j hsf) _ woL hvl (by decide) b3R a6k R hR _ _ _ _ _ _ _ (a7q h12 RdS.nil') (a8i 11 ⟨by decide,by decide⟩) xoC 9) rfl rfl fun v14 I14 j14 q14=>?_
    try have hvc:=hvc.le j14
    try have hsf:=hsf.le j14
    try have hvl:=hvl.le j14
    try have hVa:=hVa.le j14
    try have hVb:=hVb.le j14
    try have h8:=h8.le j14
    try have h12:=h12.le j14
    try have h25:=h25.le j14
    try have h32:=h32.le j14
    try have h39:=h39.le j14
    obtain⟨k14,u14,t14,rfl,hV14⟩:=q14;refine dH 5 0 ?_;refine a0Y _ he rfl rfl rfl rfl rfl (Enc.one (α:=Vdt) ⟨_,_,_,rfl,hV14⟩) ?_;refine go 3 ?_;exact a5C (_) (_) (_) (_) (_) ⟨j12.trans j14,hV14⟩ sb rfl rfl
  ·intro J2 b4 k4 u4 t4 ⟨hJ2,hVb⟩;have hvc:=hvc.le hJ2;have hsf:=hsf.le hJ2;have hvl:=hvl.le hJ2;have hVa:=hVa.le hJ2;refine go 1 ?_;refine a1P fun hE4 hf4=>?_;refine go 1 ?_;refine dG 0 2 ?_;refine a0F 2 rfl rfl (by kernel_rfl) rfl (.refl _) rfl (OV.cast (u:=.bool true) (c4K rfl rfl) (congrArg Value.bool (decide_eq_true (d6o hR)))) ?_;refine dG 3 3 ?_;refine d_t 6 rfl rfl (by kernel_rfl) rfl (fun _ m=>m.keeps (.refl _)) (a1O rfl rfl rfl (OV.cast (u:=.bool true) (c4K rfl rfl) (congrArg Value.bool (decide_eq_true (d6p hR))))) ?_;refine dG 7 3 ?_;refine dG 11 2 ?_;refine dH 10 0 ?_;refine a0n rfl rfl rfl (a0m (b1s _ 12) rfl rfl (fun v25 I25 j25 q25=>?_))
   try have hvc:=hvc.le j25
   try have hsf:=hsf.le j25
   try have hvl:=hvl.le j25
   try have hVa:=hVa.le j25
   try have hVb:=hVb.le j25
   try have h8:=h8.le j25
   try have h12:=h12.le j25
   try have h25:=h25.le j25
   try have h32:=h32.le j25
   try have h39:=h39.le j25
   obtain⟨A25,n25,rfl,h25⟩:=q25;refine dH 13 0 ?_;refine a0n rfl rfl rfl (a0m (a9r _ _ woC hvc a8k woF _ (a8j hsf) _ woL hvl (by decide) b3R R hR _ _ _ _ _ _ _ (a7q h25 RdS.nil') (a8i 12 ⟨by decide,by decide⟩) xoC 9 _ _ _ _ hVa) rfl rfl (fun v28 I28 j28 q28=>?_))
   try have hvc:=hvc.le j28
   try have hsf:=hsf.le j28
   try have hvl:=hvl.le j28
   try have hVa:=hVa.le j28
   try have hVb:=hVb.le j28
   try have h8:=h8.le j28
   try have h12:=h12.le j28
   try have h25:=h25.le j28
   try have h32:=h32.le j28
   try have h39:=h39.le j28
   obtain rfl:=q28;rw[d8f hR];refine dG 14 3 ?_;refine dG 18 2 ?_;refine dH 17 0 ?_;refine a0n rfl rfl rfl (a0m (b1s _ 11) rfl rfl (fun v32 I32 j32 q32=>?_))
   try have hvc:=hvc.le j32
   try have hsf:=hsf.le j32
   try have hvl:=hvl.le j32
   try have hVa:=hVa.le j32
   try have hVb:=hVb.le j32
   try have h8:=h8.le j32
   try have h12:=h12.le j32
   try have h25:=h25.le j32
   try have h32:=h32.le j32
   try have h39:=h39.le j32
   obtain⟨A32,n32,rfl,h32⟩:=q32;refine dH 20 0 ?_;refine a0n rfl rfl rfl (a0m (a9r _ _ woC hvc a8k woF _ (a8j hsf) _ woL hvl (by decide) b3R R hR _ _ _ _ _ _ _ (a7q h32 RdS.nil') (a8i 11 ⟨by decide,by decide⟩) xoC 9 _ _ _ _ hVb) rfl rfl (fun v35 I35 j35 q35=>?_))
   try have hvc:=hvc.le j35
   try have hsf:=hsf.le j35
   try have hvl:=hvl.le j35
   try have hVa:=hVa.le j35
   try have hVb:=hVb.le j35
   try have h8:=h8.le j35
   try have h12:=h12.le j35
   try have h25:=h25.le j35
   try have h32:=h32.le j35
   try have h39:=h39.le j35
   obtain rfl:=q35;rw[d8g hR];refine d3g (fun _ m=>m.keepsI (.refl _) ((((j25).trans j28).trans j32).trans j35) hE4 hf4) ?_;refine d_t 21 rfl rfl (by kernel_rfl) rfl (fun _ m=>m.keepsI (.refl _) ((((j25).trans j28).trans j32).trans j35) hE4 hf4) (y_v rfl (b3P rfl rfl rfl)) ?_;refine d_t 22 rfl rfl (by kernel_rfl) rfl (fun _ m=>m.keepsI (.refl _) ((((j25).trans j28).trans j32).trans j35) hE4 hf4) (y_v rfl (b5D rfl)) ?_;refine d_t 23 rfl rfl (by kernel_rfl) rfl (fun _ m=>m.keepsI (.refl _) ((((j25).trans j28).trans j32).trans j35) hE4 hf4) (a1O rfl rfl rfl (a2N m2 he rfl rfl)) ?_;refine d_t 25 rfl rfl (by kernel_rfl) rfl (fun _ m=>m.keepsI (.refl _) ((((j25).trans j28).trans j32).trans j35) hE4 hf4) (a1O rfl rfl rfl (b5D rfl)) ?_;refine d_t 26 rfl rfl (by kernel_rfl) rfl (fun _ m=>m.keepsI (.refl _) ((((j25).trans j28).trans j32).trans j35) hE4 hf4) (a1O rfl rfl rfl (a2N m1 he rfl rfl)) ?_;refine dH 24 0 ?_;refine a0n rfl rfl rfl (a0m (b1s _ 11) rfl rfl (fun v39 I39 j39 q39=>?_))
   try have hvc:=hvc.le j39
   try have hsf:=hsf.le j39
   try have hvl:=hvl.le j39
   try have hVa:=hVa.le j39
   try have hVb:=hVb.le j39
   try have h8:=h8.le j39
   try have h12:=h12.le j39
   try have h25:=h25.le j39
   try have h32:=h32.le j39
   try have h39:=h39.le j39
   obtain⟨A39,n39,rfl,h39⟩:=q39;refine d3g (fun _ m=>m.keepsI (.refl _) (((((j25).trans j28).trans j32).trans j35).trans j39) hE4 hf4) ?_;refine dH 27 0 ?_;refine a0n rfl rfl rfl (a0m (a9r _ _ woC hvc a8k woF _ (a8j hsf) _ woL hvl (by decide) b3R R hR _ _ _ _ _ _ _ (a7q h39 RdS.nil') (a8i 11 ⟨by decide,by decide⟩) xoC 9 _ _ _ _ hVa) rfl rfl (fun v42 I42 j42 q42=>?_))
   try have hvc:=hvc.le j42
   try have hsf:=hsf.le j42
   try have hvl:=hvl.le j42
   try have hVa:=hVa.le j42
   try have hVb:=hVb.le j42
   try have h8:=h8.le j42
   try have h12:=h12.le j42
   try have h25:=h25.le j42
   try have h32:=h32.le j42
   try have h39:=h39.le j42
   obtain rfl:=q42;rw[d8h hR];refine d3g (fun _ m=>m.keepsI (.refl _) ((((((j25).trans j28).trans j32).trans j35).trans j39).trans j42) hE4 hf4) ?_;refine d_t 28 rfl rfl (by kernel_rfl) rfl (fun _ m=>m.keepsI (.refl _) ((((((j25).trans j28).trans j32).trans j35).trans j39).trans j42) hE4 hf4) (a1O rfl rfl rfl (b1O rfl)) ?_;refine d_t 29 rfl rfl (by kernel_rfl) rfl (fun _ m=>m.keepsI (.refl _) ((((((j25).trans j28).trans j32).trans j35).trans j39).trans j42) hE4 hf4) (y_v rfl (b3P rfl rfl rfl)) ?_;refine d_t 30 rfl rfl (by kernel_rfl) rfl (fun _ m=>m.keepsI (.refl _) ((((((j25).trans j28).trans j32).trans j35).trans j39).trans j42) hE4 hf4) (y_v rfl (b9g rfl)) ?_;refine go 4 ?_;exact q_i rfl
end Go.Proofs.YtgmkjpafapgccaaGreat
set_option linter.all false
namespace Go.Sx
open Go
section
variable {fts:List Int→List Flt} {H:List (List Int)} {i:Nat} {v:Vdt}
structure SmI (t h:List Int) (k:Nat) (b:Bool):Prop where
 yes:b=true→t.length=h.length∧t.take k=h.take k
 no:b=false→¬t=h
theorem SmI.start {t h:List Int}:SmI t h 0 (decide ((t.length:Int)=(h.length:Int))):=⟨fun hb=>⟨by have:=of_decide_eq_true hb;omega,rfl⟩,fun hb e=>by rw[e]at hb;simp at hb⟩
theorem SmI.next {t h:List Int} {k:Nat} (s:SmI t h k true) (h1:k<t.length) (h2:k<h.length):SmI t h (k+1) (decide (t[k]=h[k])):=by
 obtain⟨hl,ht⟩:=s.yes rfl;refine⟨fun hb=>⟨hl,?_⟩,fun hb e=>?_⟩
 ·rw[←a0c h1,←a0c h2,ht,of_decide_eq_true hb]
 ·subst e;simp at hb
theorem SmI.done {t h:List Int} {k:Nat} {b:Bool} (s:SmI t h k b) (hk:b=true→h.length≤k):b=decide (t=h):=by
 cases b with
 |false=>exact (decide_eq_false (s.no rfl)).symm
 |true=>
  obtain⟨hl,ht⟩:=s.yes rfl;have:=hk rfl;rw[List.take_of_length_le oM,List.take_of_length_le oM]at ht
  exact (decide_eq_true ht).symm
end
section
variable {f:Fm} {c:List Kind} {b:Bok} {l:List Rep} {R:Nat→Nat} {vn:ByteArray} {day:Int}
theorem c2w {l:List Rep}:(a1S c l).length≤a3O l:=by
 rw[←a9Q];exact List.length_filter_le _ _
end
end Go.Sx
set_option linter.all false
namespace Go.Sx
open Go
structure SafeP (f:Fm) (c:List Kind) (b:Bok) (e:List Evt) (vn:ByteArray) (day:Int):Prop where
 err:(runL f c e day).2.2=0
 is:(a0e (runL f c e day).1 vn).isSome=true
 sc:((a0e (runL f c e day).1 vn).getD zPart).scrapped=false
 rules:∀n,n=vn∨a7c (runL f c e day).1 vn n→∀r∈b.rules,a4Y b (runL f c e day).1 day ((a0e (runL f c e day).1 n).getD zPart) r=false
 recs:∀n,n=vn∨a7c (runL f c e day).1 vn n→∀r∈b.recalls,a7P (runL f c e day).1 day ((a0e (runL f c e day).1 n).getD zPart) r=false
 perm:∀n,n=vn∨a7c (runL f c e day).1 vn n→a9o c b.subs (runL f c e day).1 ((a0e (runL f c e day).1 n).getD zPart).name day=true
section
variable {f:Fm} {c:List Kind} {b:Bok} {e:List Evt} {vn:ByteArray} {day:Int}
theorem a4U {α:Type} {l:List α} {p:α→Bool} {g:α→Flt} (h:(l.filter p).map g=[]):∀x∈l,p x=false:=fun x hx=>by
 have h1:=List.map_eq_nil_iff.1 h;have:=List.filter_eq_nil_iff.1 h1 x hx
 simpa using this
theorem b8D (h:ofF f c b e vn day=[]):SafeP f c b e vn day∧∀x∈b.holds,(decide (x.vehicle=vn)&&c3A x)=false:=by
 unfold ofF at h
 by_cases hb:c5j c (runL f c e day).1 (runL f c e day).2.2 vn=true
 ·rw[if_pos hb]at h;cases h
 ·rw[if_neg hb]at h
  have hb:c5j c (runL f c e day).1 (runL f c e day).2.2 vn=false:=by simpa using hb
  simp only[c5j,Bool.or_eq_false_iff,Bool.not_eq_false',decide_eq_true_eq]at hb
  have h0:=List.eq_nil_iff_forall_not_mem.2 fun z hz=>by
   have:=(a8a (lt:=a4o)).2 hz;rw[h]at this;cases this
  obtain⟨h1,h3⟩:=List.append_eq_nil_iff.1 h0;obtain⟨h1,h2⟩:=List.append_eq_nil_iff.1 h1
  have hp:∀n,n=vn∨a7c (runL f c e day).1 vn n→a1Y b c e (runL f c e day).1 day ((a0e (runL f c e day).1 n).getD zPart)=[]:=by
   rintro n (rfl|hn)
   ·exact h1
   ·exact List.eq_nil_iff_forall_not_mem.2 fun z hz=>by
     have:z∈(d0P (runL f c e day).1 vn).flatMap fun n=>a1Y b c e (runL f c e day).1 day ((a0e (runL f c e day).1 n).getD zPart):=List.mem_flatMap.2 ⟨n,b3i.2 hn,hz⟩
     rw[h2]at this;cases this
  refine⟨⟨hb.1.1.1,hb.1.1.2,hb.1.2,fun n hn=>?_,fun n hn=>?_,fun n hn=>?_⟩,a4U h3⟩
  ·have h4:=hp n hn;unfold a1Y at h4
   obtain⟨h4,h5⟩:=List.append_eq_nil_iff.1 h4;obtain⟨h4,h6⟩:=List.append_eq_nil_iff.1 h4;obtain⟨h4,h7⟩:=List.append_eq_nil_iff.1 h4;exact a4U h4
  ·have h4:=hp n hn;unfold a1Y at h4
   obtain⟨h4,h5⟩:=List.append_eq_nil_iff.1 h4;obtain⟨h4,h6⟩:=List.append_eq_nil_iff.1 h4;obtain⟨h4,h7⟩:=List.append_eq_nil_iff.1 h4;exact a4U h7
  ·have h4:=hp n hn;unfold a1Y at h4
   obtain⟨h4,h5⟩:=List.append_eq_nil_iff.1 h4;unfold b2n at h5
   cases hq:a9o c b.subs (runL f c e day).1 ((a0e (runL f c e day).1 n).getD zPart).name day with
   |true=>rfl
   |false=>rw[if_pos hq]at h5;cases h5
variable {s:List Part} {p:Part} {r:Rul}
theorem d2h (h:a4Y b s day p r=false) (h1:decide (r.kind=p.kind)=true) (h2:(!decide (a8Y s r.cond p.name day=2))=true):(!b6b b.conc p.name r.name day)=false:=by
 unfold a4Y at h
 rw[h1,h2]at h
 simpa using h
theorem d5w (h:a7P s day p r=false) (h1:decide (r.kind=p.kind)=true):(!decide (a8Y s r.cond p.name day=0))=false:=by
 unfold a7P at h
 rw[h1]at h
 simpa using h
theorem d0O {x:Hld} (h:(decide (x.vehicle=vn)&&c3A x)=false) (h1:decide (x.vehicle=vn)=true):c3A x=false:=by
 rw[h1]at h
 simpa using h
theorem d4o {ns:List ByteArray} {k:Nat} (hns:∀n,n∈ns↔a7c s vn n) (hk:k<(vn::ns).length):(vn::ns)[k]=vn∨a7c s vn (vn::ns)[k]:=by
 have:=List.getElem_mem hk
 rcases List.mem_cons.1 this with h|h
 ·exact .inl h
 ·exact .inr ((hns _).1 h)
variable {l:List Rep} {R:Nat→Nat} {v:Vdt}
theorem c7R (hk:v.kind=1) (ha:accF f c b l (a0D l R vn) vn day v=true):(l.any fun r=>!a0g r)=false∧¬(a1S c (a0D l R vn)).length=0∧∀t∈a1S c (a0D l R vn),ofF f c b (a0J (a0D l R vn) t).1 vn day=[]:=by
 cases h:(!decide ((runL f c [] 0).2.2=0)||l.any fun r=>!a0g r) with
 |true=>rw[b2K h]at ha;cases ha
 |false=>
  simp only[Bool.or_eq_false_iff,Bool.not_eq_false',decide_eq_true_eq]at h
  rw[a9O h.1 h.2]at ha
  unfold b3o at ha
  rw[if_pos hk]at ha
  obtain⟨h1,t,h2⟩:=b5n (a7V h.1) (a4c (a3N h.2) (R:=R) (p:=vn)) ha;refine⟨h.2,fun h0=>?_,fun t ht=>h1 t ((b7V t).1 ht)⟩;have:=(b7V t).2 h2;rw[List.length_eq_zero_iff.1 h0]at this;cases this
theorem c7c {x:Hld} (h:∀m∈x.members,m∈x.back):c3A x=false:=by
 unfold c3A;rw[List.any_eq_false];intro m hm
 simp[h m hm]
theorem c7d {x:Hld} {i:Nat} (hi:i<x.members.length) (h:decide (x.members[i]∈x.back)=false):c3A x=true:=
 List.any_eq_true.2 ⟨x.members[i],List.getElem_mem hi,by rw[h];rfl⟩
theorem b8m {l:List Int} {k:Nat} {m:Int} (h:k<l.length):decide (m∈l.take (k+1))=(decide (m∈l.take k)||decide (l[k]=m)):=by
 rw[←a0c h,Bool.eq_iff_iff]
 simp only[List.mem_append,List.mem_singleton,Bool.or_eq_true,decide_eq_true_eq]
 exact or_congr Iff.rfl eq_comm
theorem c5v {l m:List Int} {i:Nat} (h:i<l.length) (h1:∀x∈l.take i,x∈m) (h2:decide (l[i]∈m)=true):∀x∈l.take (i+1),x∈m:=fun x hx=>by
 rw[←a0c h]at hx
 rcases List.mem_append.1 hx with h3|h3
 ·exact h1 x h3
 ·rw[List.mem_singleton.1 h3];exact of_decide_eq_true h2
end
end Go.Sx
