
import Derived.Test.YtgmkjpafapgccaaGreatZTdf
namespace Go.Proofs.YtgmkjpafapgccaaGreat
open Go Go.Sx Tryz
set_option linter.all false
set_option maxRecDepth 20000
set_option maxHeartbeats 4000000
theorem T.eqg_157:prog.eqGuardType prog.depth 157=false:=by kernel_rfl
instance:Has (a1h prog 159 0) (0,true,4):=hk
instance:Has (a1h prog 159 1) (4,true,6):=hk
instance:Has (a1h prog 159 2) (10,false,1):=hk
instance:Has (a1h prog 159 3) (11,false,1):=hk
instance:Has (a1h prog 159 4) (12,false,1):=hk
instance:Has (a1h prog 48 1) (1,true,3):=hk
instance:Has (a1h prog 48 2) (4,false,1):=hk
instance:Has (a1h prog 48 3) (5,false,1):=hk
instance:Has (plK prog 159) [(0,4),(4,6),(10,1),(11,1),(12,1)]:=hk
instance:Has (tyK prog 159) (true,13):=hk
instance:Has (tyK prog 271) (false,1):=hk
instance:Has (prog.underlying 162) (.map 3 160):=hk
instance:Has (a1n prog 159) [.slice none 0 0,.int .i64 0,.int .i64 0,.slice none 0 0,.slice none 0 0,.slice none 0 0,.slice none 0 0,.slice none 0 0,.slice none 0 0,.slice none 0 0,.slice none 0 0,.string ⟨#[]⟩,.int .i64 0]:=hk
instance:Has (a1n prog 303) [.nilFunc]:=hk
instance:Has (zvK prog 160) (.nilFunc):=hk
theorem d3A (I:IMap) (v:Value) (l:List Int) (hv:RdS I v l) (hl:l.length≤1000000) :
    FnX prog 232 #[v] I [] (fun u r=>r = .row u 3 1 l.length (a2l l)):=by
 have hv0:=hv;obtain⟨A,c,rfl,hA,hc,hm⟩:=hv;refine enter func232 call232 rfl ntmps232 rfl fun w0=>?_;refine go 9 ?_;refine o_v rfl (a9D he rfl) ?_;refine gC 2 (fun h4 p4=>?_) fun h4 p4=>?_
 ·obtain rfl:l=[]:=List.eq_nil_of_length_eq_zero (by rcases Nat.eq_zero_or_pos l.length with h|h;exact h;obtain⟨_,_,e,_⟩:=hA h;subst e;cases h4);refine a0G 3 1 ?_;refine go 8 ?_;exact q_x rfl
 ·refine go 6 fun v5=>?_
  refine go 2 ?_;refine a2K (hv0) rfl he he rfl rfl rfl rfl oM oM rfl fun v7 x7 f7=>?_;refine go 5 ?_;refine b3J (ys:=x7) rfl ?_;rw[Nat.zero_add,c2c f7];exact q_x rfl
theorem b4f (I:IMap) (vc:Value) (c:List Kind) (hvc:RdS I vc c) (hsc:SmC c) (f:Fm) (sf:Value) (v0 v1 v2 v3 v4 v5:Value) (vn:ByteArray) (day:Int) (A:Option Addr) (c0:Nat) (l:List Rep) (hv:RdS I (.slice A l.length c0) l) (hl:l.length≤25) (hsl:∀r∈l,∀e∈r.options,SmE e) {σ:Type} (R:σ→Res) (E:σ→List Int→Bool×σ) (F:FuncId) (cs:List Value) (hE:∀J,ILe I J→∀s w t,RdS J w t→t.length=l.length→FnG prog F ([w]++cs).toArray J (R s) fun u J2 r=>u = .bool (E s t).1∧r=R (E s t).2) (gn gq g7 g5 g11 gc:Nat) (kq:ICells I gq 0 [vc,ci f.op,ci f.n,sf,v0,v1,v2,v3,v4,v5,.slice A l.length c0,.string vn,.int .i64 (day)]) (k7:ICells I g7 0 [.slice (some ⟨gc,0,none⟩) l.length l.length]) (k5:ICells I g5 0 [.func (.func F) #[] cs.toArray]) (k11:ICells I g11 0 [.func (.func 231) #[] #[.pointer (some ⟨gn,0,none⟩),.pointer (some ⟨gq,0,none⟩),.pointer (some ⟨g7,0,none⟩),.pointer (some ⟨g5,0,none⟩),.pointer (some ⟨g11,0,none⟩)]]) (N:Nat) (ih:∀J,ILe I J→∀x,cntN x≤N→∀vs,FmRd J vs x→∀ch,Opn l ch→∀n s,0≤n→n≤4096→FnH prog 231 #[.agg vs.toArray,.pointer (some ⟨gn,0,none⟩),.pointer (some ⟨gq,0,none⟩),.pointer (some ⟨g7,0,none⟩),.pointer (some ⟨g5,0,none⟩),.pointer (some ⟨g11,0,none⟩)] J [.blk gc 3 (a2l ch),.blk gn 3 [.int .i64 (n)],R s] (fun u J H'=>∃b ch2 n2 s2,u = .bool b∧H'=[.blk gc 3 (a2l ch2),.blk gn 3 [.int .i64 (n2)],R s2]∧(b=true→ch2=ch∧visF c l E x ch n s=some (n2,s2)∧0≤n2∧n2≤4096)∧(b=false→visF c l E x ch n s=none))) (x:Fm) (hN:cntN x≤N+1) (vs:List Value) (hx:FmRd I vs x) (ch:List Int) (ho:Opn l ch) (n:Int) (s:σ) (hn0:0≤n) (hn1:n≤4096) :
    FnH prog 231 #[.agg vs.toArray,.pointer (some ⟨gn,0,none⟩),.pointer (some ⟨gq,0,none⟩),.pointer (some ⟨g7,0,none⟩),.pointer (some ⟨g5,0,none⟩),.pointer (some ⟨g11,0,none⟩)] I [.blk gc 3 (a2l ch),.blk gn 3 [.int .i64 (n)],R s] (fun u J H'=>∃b ch2 n2 s2,u = .bool b∧H'=[.blk gc 3 (a2l ch2),.blk gn 3 [.int .i64 (n2)],R s2]∧(b=true→ch2=ch∧visF c l E x ch n s=some (n2,s2)∧0≤n2∧n2≤4096)∧(b=false→visF c l E x ch n s=none)):=by
 have hcl:ch.length=l.length:=ho.len;obtain⟨sk,rfl,hk⟩:=a2a hx;obtain⟨K0,kc,rfl,hK,hkc,hkm⟩:=id hk;obtain⟨_,_,e9,hAl,_,_⟩:=id hv
 cases e9
 refine enter func231 call231 rfl ntmps231 rfl fun w0=>?_;refine go 4 fun g6=>?_
 refine go 9 ?_;refine a0c ?_;refine go 5 ?_;refine a0b ?_;refine a0z fun Ig6 jg6 cg6=>?_
 try have hvc:=hvc.le jg6
 try have hv:=hv.le jg6
 try have hAl:=hAl.le jg6
 try have hK:=hK.le jg6
 try have kq:=kq.le jg6
 try have k7:=k7.le jg6
 try have k5:=k5.le jg6
 try have k11:=k11.le jg6
 try have cg6:=cg6.le jg6
 have hE:=fun J h=>hE J (ILe.trans jg6 h)
 have ih:=fun J h=>ih J (ILe.trans jg6 h)
 refine gC 4 (fun h14 p14=>?_) fun h14 p14=>?_
 ·refine go 8 ?_;refine a0c ?_;refine a0b ?_;refine a0c ?_;exact a2c (fun _ m=>m) ⟨false,_,_,_,rfl,rfl,(fun h=>by cases h),fun _=>d2E oM⟩
 ·have h0:¬n+1>4096:=oM;refine go 4 ?_;refine a1Q (I':=Ig6) (L':=[(1,.pointer (some ⟨gn,0,none⟩)),(2,.pointer (some ⟨gq,0,none⟩)),(3,.pointer (some ⟨g7,0,none⟩)),(4,.pointer (some ⟨g5,0,none⟩)),(5,.pointer (some ⟨g11,0,none⟩)),(6,.pointer (some ⟨g6,0,none⟩)),(28,.bool (a7x x.op x.n x.kids.length))]) (H':=[.blk gc 3 (a2l ch),.blk gn 3 [.int .i64 (n+1)],R s]) ?_ ?_
  ·refine go 2 ?_;refine o_v rfl (a0v he rfl (cg6 0 _ rfl)) ?_;refine gS 2 18 (fun h18 p18=>?_) fun h18 p18=>?_
   ·refine go 1 ?_;refine a0A (a0n rfl rfl h18 (a0q rfl (a0v he rfl (cg6 1 _ rfl)) ?_));refine gS 2 22 (fun h22 p22=>?_) fun h22 p22=>?_
    ·refine go 8 ?_;refine a0c ?_;refine a0b ?_;refine a0c ?_;exact a0o ⟨rfl,rfl,rfl,rfl,rfl,rfl,(bB (by simp only[a7x,h14,h18,h22,bS])),trivial⟩ rfl rfl
    ·refine go 1 ?_;refine a0A (a0n rfl rfl h22 (a0q rfl (a0v he rfl (cg6 2 _ rfl)) ?_));refine go 6 ?_;refine a0c ?_;refine a0b ?_;refine a0c ?_;exact a0o ⟨rfl,rfl,rfl,rfl,rfl,rfl,(bB (by simp only[a7x,h14,h18,h22,bS])),trivial⟩ rfl rfl
   ·refine go 12 ?_;refine a0c ?_;refine a0b ?_;refine a0c ?_;exact a0o ⟨rfl,rfl,rfl,rfl,rfl,rfl,(bB (by simp only[a7x,h14,h18,bS])),trivial⟩ rfl rfl
  ·refine gC 0 (fun h28 p28=>?_) fun h28 p28=>?_
   ·refine go 8 ?_;exact a2c (fun _ m=>m) ⟨false,_,_,_,rfl,rfl,(fun h=>by cases h),fun _=>d2F h0 h28⟩
   ·have hlb:a7x x.op x.n x.kids.length=false:=h28;refine go 6 ?_;refine o_v rfl (a0v he rfl (cg6 0 _ rfl)) ?_;refine gC 9 (fun h31 p31=>?_) fun h31 p31=>?_
    ·refine go 4 ?_;refine o_v rfl (a0N he rfl (kq.sub 0 1) rfl) ?_;refine go 1 ?_;refine o_v rfl (a0v he rfl (kq 10 _ rfl)) ?_;refine o_v rfl (a0v he rfl (k7 0 _ rfl)) ?_;refine go 1 ?_;refine c2R m0 (fun I2 hI hC=>c2l I2 vc c (hvc.le hI) hsc _ l (hv.le hI) oM hsl _ ch (a5V hC hcl oM)) rfl rfl ?_;refine go 7 ?_;exact a2c (fun _ m=>m) ⟨_,ch,n+1,s,rfl,rfl,(fun h=>⟨rfl,by rw[c0K h0 hlb p31,if_pos h],oM,oM⟩),fun h=>by rw[c0K h0 hlb p31,if_neg (by rw[h];decide)]⟩
    ·refine gC 6 (fun h40 p40=>?_) fun h40 p40=>?_
     ·refine go 1 ?_;refine a0c ?_;refine a1G fun hE10 hf10=>?_;refine ds1 ?_;refine a0E 0 rfl rfl (by kernel_rfl) rfl (.cons _ (.refl _)) rfl (a0v he rfl (k7 0 _ rfl)) ?_;refine dH 1 0 ?_;refine c2R m1 (fun I2 hI hC=>(a5N I2 _ ch (a5V hC hcl oM) (-1)).mono fun _ _ _ _ h=>⟨h.1,h.2.2⟩) rfl rfl ?_;refine dG 2 2 ?_;refine gS 0 45 (fun h45 p45=>?_) fun h45 p45=>?_
      ·refine d_t 4 rfl rfl (by kernel_rfl) rfl (fun _ m=>m.keeps (.cons _ (.refl _))) (a1u rfl rfl h45 (a0v he rfl (k5 0 _ rfl))) ?_;refine d_t 5 rfl rfl (by kernel_rfl) rfl (fun _ m=>m.keeps (.cons _ (.refl _))) (a1u rfl rfl h45 (a0v he rfl (k7 0 _ rfl))) ?_;refine dH 6 0 ?_;refine a0n rfl rfl h45 (d1e m1 (fun I2 hI hC=>d3A I2 _ ch (a5V hC hcl oM) oM) rfl rfl (fun v48 s48 q48=>?_));obtain rfl:=q48;refine a0k (l:=ch) rfl rfl (a6r _) fun I48 j48 R48=>?_
       try have hvc:=hvc.le j48
       try have hv:=hv.le j48
       try have hAl:=hAl.le j48
       try have hK:=hK.le j48
       try have kq:=kq.le j48
       try have k7:=k7.le j48
       try have k5:=k5.le j48
       try have k11:=k11.le j48
       try have cg6:=cg6.le j48
       have hE:=fun J h=>hE J (ILe.trans j48 h)
       have ih:=fun J h=>ih J (ILe.trans j48 h)
       refine dH 7 0 ?_;refine a0n rfl rfl h45 (a1k (hE _ (ILe.refl _) s _ ch R48 hcl) rfl rfl (fun v49 I49 s49 j49 q49=>?_))
       try have hvc:=hvc.le j49
       try have hv:=hv.le j49
       try have hAl:=hAl.le j49
       try have hK:=hK.le j49
       try have kq:=kq.le j49
       try have k7:=k7.le j49
       try have k5:=k5.le j49
       try have k11:=k11.le j49
       try have cg6:=cg6.le j49
       have hE:=fun J h=>hE J (ILe.trans j49 h)
       have ih:=fun J h=>ih J (ILe.trans j49 h)
       obtain⟨rfl,rfl⟩:=q49;refine dG 8 2 ?_;refine go 6 ?_;refine a0c ?_;refine a0c ?_;exact a2c (fun _ m=>m) ⟨_,ch,n+1,(E s ch).2,rfl,rfl,(fun h=>⟨rfl,by rw[b7i h0 hlb p40,if_neg (by simpa using h45),if_pos h],oM,oM⟩),fun h=>by rw[b7i h0 hlb p40,if_neg (by simpa using h45),if_neg (by rw[h];decide)]⟩
      ·refine dG 4 6 ?_;refine go 6 ?_;refine a0c ?_;refine a0c ?_;exact a2c (fun _ m=>m) ⟨false,_,_,_,rfl,rfl,(fun h=>by cases h),fun _=>by rw[b7i h0 hlb p40,if_pos (by simpa using h45)]⟩
     ·refine gC 6 (fun h51 p51=>?_) fun h51 p51=>?_
      ·refine go 3 ?_;refine o_v rfl (a0v he rfl (cg6 1 _ rfl)) ?_;refine go 5 ?_;refine a1Q (I':=Ig6) (L':=[(1,.pointer (some ⟨gn,0,none⟩)),(2,.pointer (some ⟨gq,0,none⟩)),(3,.pointer (some ⟨g7,0,none⟩)),(4,.pointer (some ⟨g5,0,none⟩)),(5,.pointer (some ⟨g11,0,none⟩)),(6,.pointer (some ⟨g6,0,none⟩)),(8,.int .i64 (x.n)),(83,.bool (a8E l ch x.n x.kids.length))]) (H':=[.blk gc 3 (a2l ch),.blk gn 3 [.int .i64 (n+1)],R s]) ?_ ?_
       ·refine go 1 ?_;refine dG 0 3 ?_;refine gS 0 57 (fun h57 p57=>?_) fun h57 p57=>?_
        ·refine dG 3 26 ?_;refine go 2 ?_;exact a0o ⟨rfl,rfl,rfl,rfl,rfl,rfl,rfl,(bB (by simp only[a8E,h28,h31,h40,h51,h57,bS])),trivial⟩ rfl rfl
        ·refine dG 3 2 ?_;refine d_t 5 rfl rfl (by kernel_rfl) rfl (fun _ m=>m.keeps (.refl _)) (a1u rfl rfl h57 (a0v he rfl (kq 10 _ rfl))) ?_;refine dG 6 1 ?_;refine d_t 7 rfl rfl (by kernel_rfl) rfl (fun _ m=>m.keeps (.refl _)) (a1u rfl rfl h57 (OV.cast (u:=.int .i64 ((l.length:Nat):Int)) (a6j rfl rfl) (congrArg (Value.int .i64) (if_neg oM)))) ?_;refine dG 8 3 ?_;refine gS 0 65 (fun h65 p65=>?_) fun h65 p65=>?_
         ·refine dG 11 18 ?_;refine go 2 ?_;exact a0o ⟨rfl,rfl,rfl,rfl,rfl,rfl,rfl,(bB (by simp only[a8E,h28,h31,h40,h51,h57,h65,bS])),trivial⟩ rfl rfl
         ·refine d_t 11 rfl rfl (by kernel_rfl) rfl (fun _ m=>m.keeps (.refl _)) (a1u rfl rfl h65 (a0v he rfl (k7 0 _ rfl))) ?_;refine dG 12 1 ?_;have hnl:x.n.toNat<l.length:=oM;refine d_t 13 rfl rfl (by kernel_rfl) rfl (fun _ m=>m.keeps (.refl _)) (a1u rfl rfl h65 (a0m he rfl rfl rfl (x.n.toNat) oM oM)) ?_;refine d_t 14 rfl rfl (by kernel_rfl) rfl (fun _ m=>m.keeps (.refl _)) (a1u rfl rfl h65 (OV.cast (u:=.int .i64 (ch.getD x.n.toNat 0)) (b1f m0 he rfl (d6u _ (c6a oM))) (congrArg (Value.int .i64) (b7a oM).symm))) ?_;refine dG 15 3 ?_;refine gS 0 72 (fun h72 p72=>?_) fun h72 p72=>?_
          ·refine dG 18 11 ?_;refine go 2 ?_;exact a0o ⟨rfl,rfl,rfl,rfl,rfl,rfl,rfl,(bB (by simp only[a8E,h28,h31,h40,h51,h57,h65,h72,bS])),trivial⟩ rfl rfl
          ·refine dG 18 1 ?_;refine d_t 19 rfl rfl (by kernel_rfl) rfl (fun _ m=>m.keeps (.refl _)) (a1u rfl rfl h72 (a0v he rfl (cg6 2 _ rfl))) ?_;refine dG 20 2 ?_;refine d_t 22 rfl rfl (by kernel_rfl) rfl (fun _ m=>m.keeps (.refl _)) (a1u rfl rfl h72 (a0v he rfl (kq 10 _ rfl))) ?_;refine dG 23 1 ?_;obtain⟨b79,o79,w79,e79,c79,r79⟩:=RdA.at_ hAl (i:=x.n.toNat) hnl;obtain⟨q79,rfl,S79,d79,rfl,hS79,hd79,hm79⟩:=r79;refine d_t 24 rfl rfl (by kernel_rfl) rfl (fun _ m=>m.keeps (.refl _)) (a1u rfl rfl h72 (a0m he rfl rfl e79 (x.n.toNat) oM hnl)) ?_;refine dH 25 1 ?_;refine a0n rfl rfl h72 (a0y (a3E _ l[x.n.toNat] S79 d79 ⟨_,_,rfl,hS79,hd79,hm79⟩ (hsl _ (List.getElem_mem hnl))) rfl rfl ?_);refine go 1 ?_;refine d_t 27 rfl rfl (by kernel_rfl) rfl (fun _ m=>m.keeps (.refl _)) (a1u rfl rfl h72 (OV.cast (u:=.bool (!decide ((x.kids.length:Int)=chs (l.getD x.n.toNat ⟨[],false⟩)))) (c4G rfl rfl) (by rw[a5y hnl]))) ?_;refine dG 28 1 ?_;refine go 2 ?_;exact a0o ⟨rfl,rfl,rfl,rfl,rfl,rfl,rfl,(bB (by simp only[a8E,h28,h31,h40,h51,h57,h65,h72,bS])),trivial⟩ rfl rfl
       ·refine gC 0 (fun h83 p83=>?_) fun h83 p83=>?_
        ·refine go 10 ?_;exact a2c (fun _ m=>m) ⟨false,_,_,_,rfl,rfl,(fun h=>by cases h),fun _=>by rw[c4L h0 hlb p51,if_pos h83]⟩
        ·obtain⟨a,hxa,hal,hac,hneg,hkl⟩:=c3Z h83 hcl;have hm1:=(ho.neg a hal hac hneg).1;have hc5:=a7g l[a];have hvis:visF c l E x ch n s=visL c l E x.kids a 0 ch (n+1) s:=by rw[c4L h0 hlb p51,h83,hxa];rfl
         rw[hxa];refine go 6 ?_;refine o_v rfl (a0v he rfl (cg6 2 _ rfl)) ?_;refine go 5 ?_
         refine a5j ((0:Nat)) (ch[a]) (n+1) (s) (Ig6) (fun k z n2 s2 J=>J)
          (fun k z n2 s2 J=>[(1,.pointer (some ⟨gn,0,none⟩)),(2,.pointer (some ⟨gq,0,none⟩)),(3,.pointer (some ⟨g7,0,none⟩)),(4,.pointer (some ⟨g5,0,none⟩)),(5,.pointer (some ⟨g11,0,none⟩)),(6,.pointer (some ⟨g6,0,none⟩)),(8,.int .i64 ((a:Nat):Int)),(85,.slice K0 x.kids.length kc),(86,.int .i64 ((x.kids.length:Nat):Int)),(87,.int .i64 ((k:Nat):Int))])
          (fun k z n2 s2 J=>[.blk gc 3 (a2l (ch.set a z)),.blk gn 3 [.int .i64 (n2)],R s2])
          (fun k z n2 s2 J=>k≤x.kids.length∧ILe Ig6 J∧0≤n2∧n2≤4096∧visL c l E x.kids a 0 ch (n+1) s=visL c l E (x.kids.drop k) a k ch n2 s2)
          (fun k z n2 s2 J=>x.kids.length-k) ⟨Nat.zero_le _,ILe.refl _,oM,oM,rfl⟩ rfl sb (by rw[List.set_getElem_self]) ?_
         intro k z n2 s2 J ⟨hk2,hJ,hn3,hn4,hq⟩;have hvc:=hvc.le hJ;have hv:=hv.le hJ;have hAl:=hAl.le hJ;have hK:=hK.le hJ;have kq:=kq.le hJ;have k7:=k7.le hJ;have k5:=k5.le hJ;have k11:=k11.le hJ;have cg6:=cg6.le hJ;have hE:=fun J h=>hE J (ILe.trans hJ h)
         have ih:=fun J h=>ih J (ILe.trans hJ h)
         refine gC 6 (fun h88 p88=>?_) fun h88 p88=>?_
         ·have hlt:k<x.kids.length:=oM;refine go 7 ?_;obtain⟨b90,o90,w90,e90,c90,r90⟩:=RdA.at_ hK (i:=k) hlt;refine go 1 ?_;refine o_v rfl (a0N he rfl c90 (Enc.len r90)) ?_;refine go 2 fun g10=>?_
          refine go 2 ?_;refine a1d _ he rfl rfl rfl (Enc.len (α:=Fm) r90) rfl (Enc.one (α:=Fm) r90) ?_;refine go 4 ?_;refine o_v rfl (a0v he rfl (k7 0 _ rfl)) ?_;refine go 2 ?_;refine o_v rfl (a0m he rfl rfl rfl (a) oM oM) ?_;refine go 1 ?_;refine a0b ?_;refine a8t he rfl rfl rfl (by rw[a5U,Nat.blt_eq];simp only[List.length_set];omega) ?_;refine a3M (a2l (ch.set a ((k:Nat):Int))) (by rw[Nat.zero_add,Nat.mul_one];show (a2l _).set _ (ci _)=_;rw[a5W,List.set_set]) ?_;refine go 4 ?_;refine o_v rfl (a0v he rfl (k11 0 _ rfl)) ?_;refine o_v rfl (a2y m1 he rfl (Enc.len (α:=Fm) r90)) ?_;refine go 1 ?_;refine a0u ?_;refine a0u ?_;refine a0c ?_;refine a2F (Hc:=[_,_,_]) (ih J (ILe.refl _) x.kids[k] (by have:=a3w (f:=x) (List.getElem_mem hlt);omega) _ r90 _ (ho.set hal (k:=((k:Nat):Int)) oM oM) n2 s2 hn3 hn4) rfl rfl fun u98 I98 H98 j98 q98=>?_;obtain⟨b98,ch98,n98,s98,rfl,rfl,hbt,hbf⟩:=q98;refine a9C ?_
          try have hvc:=hvc.le j98
          try have hv:=hv.le j98
          try have hAl:=hAl.le j98
          try have hK:=hK.le j98
          try have kq:=kq.le j98
          try have k7:=k7.le j98
          try have k5:=k5.le j98
          try have k11:=k11.le j98
          try have cg6:=cg6.le j98
          have hE:=fun J h=>hE J (ILe.trans j98 h)
          have ih:=fun J h=>ih J (ILe.trans j98 h)
          refine gC 3 (fun h99 p99=>?_) fun h99 p99=>?_
          ·have hb:b98=false:=by simpa using h99
           refine go 14 ?_;refine a0u ?_;refine a0a ?_;exact a2c (fun _ m=>m) ⟨false,_,_,_,rfl,rfl,(fun h=>by cases h),fun _=>by rw[hvis,hq,c4K hlt (hbf hb)]⟩
          ·have hb:b98=true:=by simpa using h99
           obtain⟨rfl,hv98,hn5,hn6⟩:=hbt hb;refine go 8 ?_;refine a0u ?_;refine a0a ?_;exact a2V (k+1) (((k:Nat):Int)) (n98) (s98) (I98) ⟨oM,hJ.trans j98,hn5,hn6,by rw[hq,b5F hlt hv98]⟩ oM rfl sb rfl
         ·refine go 7 ?_;refine o_v rfl (a0v he rfl (k7 0 _ rfl)) ?_;refine go 1 ?_;refine o_v rfl (a0m he rfl rfl rfl (a) oM oM) ?_;refine go 1 ?_;refine a8t he rfl rfl rfl (by rw[a5U,Nat.blt_eq];simp only[List.length_set];omega) ?_;refine a3M (a2l ch) (by rw[Nat.zero_add,Nat.mul_one];show (a2l _).set _ (ci _)=_;rw[a5W,List.set_set];exact congrArg a2l (by rw[←hm1];exact List.set_getElem_self _)) ?_;refine go 11 ?_;exact a2c (fun _ m=>m) ⟨true,_,_,_,rfl,rfl,(fun _=>⟨rfl,by rw[hvis,hq,b9b oM],hn3,hn4⟩),fun h=>by cases h⟩
      ·refine go 10 ?_;exact a2c (fun _ m=>m) ⟨false,_,_,_,rfl,rfl,(fun h=>by cases h),fun _=>d2H h0 hlb p31 p40 p51⟩
theorem c5l (I:IMap) (vc:Value) (c:List Kind) (hvc:RdS I vc c) (hsc:SmC c) (f:Fm) (sf:Value) (v0 v1 v2 v3 v4 v5:Value) (vn:ByteArray) (day:Int) (A:Option Addr) (c0:Nat) (l:List Rep) (hv:RdS I (.slice A l.length c0) l) (hl:l.length≤25) (hsl:∀r∈l,∀e∈r.options,SmE e) {σ:Type} (R:σ→Res) (E:σ→List Int→Bool×σ) (F:FuncId) (cs:List Value) (hE:∀J,ILe I J→∀s w t,RdS J w t→t.length=l.length→FnG prog F ([w]++cs).toArray J (R s) fun u J2 r=>u = .bool (E s t).1∧r=R (E s t).2) (gn gq g7 g5 g11 gc:Nat) (kq:ICells I gq 0 [vc,ci f.op,ci f.n,sf,v0,v1,v2,v3,v4,v5,.slice A l.length c0,.string vn,.int .i64 (day)]) (k7:ICells I g7 0 [.slice (some ⟨gc,0,none⟩) l.length l.length]) (k5:ICells I g5 0 [.func (.func F) #[] cs.toArray]) (k11:ICells I g11 0 [.func (.func 231) #[] #[.pointer (some ⟨gn,0,none⟩),.pointer (some ⟨gq,0,none⟩),.pointer (some ⟨g7,0,none⟩),.pointer (some ⟨g5,0,none⟩),.pointer (some ⟨g11,0,none⟩)]]) (x:Fm) (vs:List Value) (hx:FmRd I vs x) (ch:List Int) (ho:Opn l ch) (n:Int) (s:σ) (hn0:0≤n) (hn1:n≤4096) :
  FnH prog 231 #[.agg vs.toArray,.pointer (some ⟨gn,0,none⟩),.pointer (some ⟨gq,0,none⟩),.pointer (some ⟨g7,0,none⟩),.pointer (some ⟨g5,0,none⟩),.pointer (some ⟨g11,0,none⟩)] I [.blk gc 3 (a2l ch),.blk gn 3 [.int .i64 (n)],R s] (fun u J H'=>∃b ch2 n2 s2,u = .bool b∧H'=[.blk gc 3 (a2l ch2),.blk gn 3 [.int .i64 (n2)],R s2]∧(b=true→ch2=ch∧visF c l E x ch n s=some (n2,s2)∧0≤n2∧n2≤4096)∧(b=false→visF c l E x ch n s=none)):=by
 have key:∀N J,ILe I J→∀x,cntN x≤N→∀vs,FmRd J vs x→∀ch,Opn l ch→∀n s,0≤n→n≤4096→FnH prog 231 #[.agg vs.toArray,.pointer (some ⟨gn,0,none⟩),.pointer (some ⟨gq,0,none⟩),.pointer (some ⟨g7,0,none⟩),.pointer (some ⟨g5,0,none⟩),.pointer (some ⟨g11,0,none⟩)] J [.blk gc 3 (a2l ch),.blk gn 3 [.int .i64 (n)],R s] (fun u J H'=>∃b ch2 n2 s2,u = .bool b∧H'=[.blk gc 3 (a2l ch2),.blk gn 3 [.int .i64 (n2)],R s2]∧(b=true→ch2=ch∧visF c l E x ch n s=some (n2,s2)∧0≤n2∧n2≤4096)∧(b=false→visF c l E x ch n s=none)):=by
  intro N
  induction N with
  |zero=>intro J _ x h;cases x;simp[cntN]at h
  |succ N ih=>exact fun J hJ x hN vs hx ch ho n s h0 h1=>b4f J vc c (hvc.le hJ) hsc f sf v0 v1 v2 v3 v4 v5 vn day A c0 l (hv.le hJ) hl hsl R E F cs (fun K hK=>hE K (hJ.trans hK)) gn gq g7 g5 g11 gc (kq.le hJ) (k7.le hJ) (k5.le hJ) (k11.le hJ) N (fun K hK x hN=>ih K (hJ.trans hK) x hN) x hN vs hx ch ho n s h0 h1
 exact key (cntN x) I (ILe.refl _) x (Nat.le_refl _) vs hx ch ho n s hn0 hn1
theorem c1r (I:IMap) (vc:Value) (c:List Kind) (hvc:RdS I vc c) (hsc:SmC c) (f:Fm) (sf:Value) (v0 v1 v2 v3 v4 v5:Value) (hqo:[v0,v1,v2,v3,v4,v5].all Value.oneCell'=true) (vn:ByteArray) (day:Int) (A:Option Addr) (c0:Nat) (l:List Rep) (hv:RdS I (.slice A l.length c0) l) (hl:l.length≤25) (hsl:∀r∈l,∀e∈r.options,SmE e) (hva:(l.any fun r=>!a0g r)=false) (x:Fm) (vs:List Value) (hx:FmRd I vs x) {σ:Type} (R:σ→Res) (E:σ→List Int→Bool×σ) (F:FuncId) (cs:List Value) (hE:∀J,ILe I J→∀s w t,RdS J w t→t.length=l.length→FnG prog F ([w]++cs).toArray J (R s) fun u J2 r=>u = .bool (E s t).1∧r=R (E s t).2) (s:σ) :
    FnG prog 154 #[.agg #[vc,ci f.op,ci f.n,sf,v0,v1,v2,v3,v4,v5,.slice A l.length c0,.string vn,.int .i64 (day)],.agg vs.toArray,.func (.func F) #[] cs.toArray] I (R s) (fun u J r'=>∃b s2,u = .bool b∧r'=R s2∧(b=true→∃n,visF c l E x (b3Z l) 0 s=some (n,s2))∧(b=false→visF c l E x (b3Z l) 0 s=none)):=by
 obtain⟨_,_,e9,hAl,_,_⟩:=id hv
 cases e9
 refine enter func154 call154 rfl ntmps154 rfl fun w0=>?_;refine go 4 fun g3=>?_
 refine go 2 fun g4=>?_
 refine go 2 fun g5=>?_
 refine go 9 ?_;refine a5r he he rfl rfl rfl oM oM rfl fun g15=>?_;refine a3M _ (b4F _) ?_;refine go 2 fun g7=>?_
 refine go 14 ?_;refine a3s ?_;refine a3s ?_;refine a3s ?_;refine a3s ?_;refine a1y ?_;refine a3s ?_
 refine a0x (α:=Nat) (0:Nat) (fun i=>I)
  (fun i=>[(3,.pointer (some ⟨g3,0,none⟩)),(4,.pointer (some ⟨g4,0,none⟩)),(5,.pointer (some ⟨g5,0,none⟩)),(7,.pointer (some ⟨g7,0,none⟩)),(17,.slice A l.length c0),(18,.int .i64 ((l.length:Nat):Int)),(19,.int .i64 ((i:Nat):Int))])
  (fun i=>[.blk g15 3 (a2l (b4a l i)),.blk g7 45 [.slice (some ⟨g15,0,none⟩) l.length l.length],.blk g5 271 [.func (.func F) #[] cs.toArray],.blk g4 44 vs,.blk g3 159 [vc,ci f.op,ci f.n,sf,v0,v1,v2,v3,v4,v5,.slice A l.length c0,.string vn,.int .i64 (day)],R s])
  (fun i=>i≤l.length)
  (fun i=>l.length-i) (Nat.zero_le _) rfl sb rfl ?_
 intro i hi;refine gC 6 (fun h20 p20=>?_) fun h20 p20=>?_
 ·have hlt:i<l.length:=oM;refine go 7 ?_;obtain⟨b22,o22,w22,e22,c22,r22⟩:=RdA.at_ hAl (i:=i) hlt;obtain⟨q22,rfl,S22,d22,rfl,hS22,hd22,hm22⟩:=r22;refine go 4 fun g9=>?_
  refine go 9 ?_;refine cV (a3E _ l[i] S22 d22 ⟨_,_,rfl,hS22,hd22,hm22⟩ (hsl _ (List.getElem_mem hlt))) ?_;refine gC 3 (fun h26 p26=>?_) fun h26 p26=>?_
  ·refine go 3 ?_;refine o_v rfl (a0m he rfl rfl rfl (i) oM oM) ?_;refine go 1 ?_;refine a0b ?_;refine a8t he rfl rfl rfl (by rw[a5U,b2I oM,Nat.blt_eq];omega) ?_;refine a3M (a2l ((b4a l i).set i (-1))) (by rw[Nat.zero_add,Nat.mul_one];exact a5W _ _ _) ?_;refine go 8 ?_;refine a0b ?_;refine a0a ?_;exact a0w (i+1) oM oM rfl sb (by rw[b7r hlt (by unfold a8w;rw[decide_eq_false oM];rfl)])
  ·refine go 8 ?_;refine a0a ?_;exact a0w (i+1) oM oM rfl sb (by rw[c1b hlt (by unfold a8w;rw[decide_eq_true (by have:=a6S (a4R hva _ (List.getElem_mem hlt));omega)];rfl)])
 ·obtain rfl:i=l.length:=oM;rw[b7q];refine go 9 fun g10=>?_
  refine go 8 fun g11=>?_
  refine go 4 ?_;refine a0S ?_;refine a0z fun Ig3 jg3 cg3=>?_
  try have hvc:=hvc.le jg3
  try have hv:=hv.le jg3
  try have hAl:=hAl.le jg3
  try have hx:=hx.le jg3
  try have cg3:=cg3.le jg3
  try have cg5:=cg5.le jg3
  try have cg7:=cg7.le jg3
  try have cg11:=cg11.le jg3
  have hE:=fun J h=>hE J (ILe.trans jg3 h)
  refine a1y ?_;refine a0z fun Ig5 jg5 cg5=>?_
  try have hvc:=hvc.le jg5
  try have hv:=hv.le jg5
  try have hAl:=hAl.le jg5
  try have hx:=hx.le jg5
  try have cg3:=cg3.le jg5
  try have cg5:=cg5.le jg5
  try have cg7:=cg7.le jg5
  try have cg11:=cg11.le jg5
  have hE:=fun J h=>hE J (ILe.trans jg5 h)
  refine a0u ?_;refine a0z fun Ig7 jg7 cg7=>?_
  try have hvc:=hvc.le jg7
  try have hv:=hv.le jg7
  try have hAl:=hAl.le jg7
  try have hx:=hx.le jg7
  try have cg3:=cg3.le jg7
  try have cg5:=cg5.le jg7
  try have cg7:=cg7.le jg7
  try have cg11:=cg11.le jg7
  have hE:=fun J h=>hE J (ILe.trans jg7 h)
  refine go 7 ?_;refine a0z fun Ig11 jg11 cg11=>?_
  try have hvc:=hvc.le jg11
  try have hv:=hv.le jg11
  try have hAl:=hAl.le jg11
  try have hx:=hx.le jg11
  try have cg3:=cg3.le jg11
  try have cg5:=cg5.le jg11
  try have cg7:=cg7.le jg11
  try have cg11:=cg11.le jg11
  have hE:=fun J h=>hE J (ILe.trans jg11 h)
  refine o_v rfl (a0v he rfl (cg11 0 _ rfl)) ?_;refine o_v rfl (a2y m2 he rfl (Enc.len (α:=Fm) hx)) ?_;refine go 1 ?_;refine a0u ?_;refine a0b ?_;refine a0c ?_;refine a2F (Hc:=[_,_,_]) (c5l _ vc c hvc hsc f sf v0 v1 v2 v3 v4 v5 vn day A c0 l hv hl hsl R E F cs hE g10 g3 g7 g5 g11 g15 cg3 cg7 cg5 cg11 x vs hx (b3Z l) (Opn.beg (a4R hva)) 0 s (Int.le_refl _) oM) rfl rfl fun u34 I34 H34 j34 q34=>?_;obtain⟨b34,ch34,n34,s34,rfl,rfl,hbt,hbf⟩:=q34;refine a9C ?_
  try have hvc:=hvc.le j34
  try have hv:=hv.le j34
  try have hAl:=hAl.le j34
  try have hx:=hx.le j34
  try have cg3:=cg3.le j34
  try have cg5:=cg5.le j34
  try have cg7:=cg7.le j34
  try have cg11:=cg11.le j34
  have hE:=fun J h=>hE J (ILe.trans j34 h)
  refine go 5 ?_;refine a0a ?_;refine a0a ?_;refine a0b ?_;refine a0a ?_;exact q_g ⟨b34,s34,rfl,rfl,(fun h=>⟨n34,(hbt h).2.1⟩),hbf⟩
theorem c1Q (I:IMap) (v:Value) (l:List Flt) (hv:RdS I v l) (v2:Value) (m:List Flt) (hv2:RdS I v2 m) :
    FnV prog 158 #[v,v2] I (.bool (decide (l=m))):=by
 obtain⟨A,c0,rfl,hA,hc,hm⟩:=hv;obtain⟨B,c1,rfl,hB,hc1,hm1⟩:=hv2;refine enter func158 call158 rfl ntmps158 rfl fun w0=>?_;refine gC 15 (fun h10 p10=>?_) fun h10 p10=>?_
 ·refine go 8 ?_;exact q_v (congrArg Value.bool (decide_eq_false (by rintro rfl;revert h10;simp)).symm)
 ·have hlm:l.length=m.length:=by revert h10;simp;omega
  refine go 11 ?_
  refine a0x (α:=Nat) 0 (fun i=>I)
   (fun i=>[(0,.slice A l.length c0),(1,.slice B m.length c1),(12,.int .i64 ((l.length:Nat):Int)),(13,.int .i64 ((i:Nat):Int))])
   (fun i=>[])
   (fun i=>i≤l.length∧l.take i=m.take i)
   (fun i=>l.length-i) ⟨Nat.zero_le _,rfl⟩ rfl sb rfl ?_
  intro i ⟨hi,hn⟩;refine gC 6 (fun h14 p14=>?_) fun h14 p14=>?_
  ·have hlt:i<l.length:=oM;refine go 12 ?_;refine dG 0 2 ?_;obtain⟨b18,o18,w18,e18,c18,r18⟩:=RdA.at_ hA (i:=i) hlt;obtain rfl:=r18;refine dG 2 4 ?_;obtain⟨b22,o22,w22,e22,c22,r22⟩:=RdA.at_ hB (i:=i) oM;obtain rfl:=r22;refine dG 6 2 ?_;refine a0E 8 rfl rfl (by kernel_rfl) rfl .slnil rfl (d2C T.eqg_157 (c1P l[i] m[i]) rfl rfl) ?_;refine gC 2 (fun h24 p24=>?_) fun h24 p24=>?_
   ·refine go 12 ?_;exact q_v (congrArg Value.bool (d1W hlt oM (by simpa using h24)).symm)
   ·refine go 8 ?_;exact a0w (i+1) ⟨oM,c3V hlt oM hn (by simpa using h24)⟩ oM rfl sb rfl
  ·refine go 12 ?_;exact q_v (congrArg Value.bool (decide_eq_true (c7y hlm oM hn)).symm)
theorem b7x (I:IMap) (vc:Value) (c:List Kind) (hvc:RdS I vc c) (hsc:SmC c) (f:Fm) (sf:Value) (hfm:FmRd I [ci f.op,ci f.n,sf] f) (v0 v1 v2 v3 v4 v5:Value) (b:Bok) (hb:BokRd I v0 v1 v2 v3 v4 v5 b) (hok:OkBok b) (vn:ByteArray) (day:Int) (A:Option Addr) (c0:Nat) (l:List Rep) (hv:RdS I (.slice A l.length c0) l) (hl:l.length≤25) (hsl:∀r∈l,∀e∈r.options,SmE e) (w:Value) (t:List Int) (hw:RdS I w t) :
    FnI prog 156 #[.agg #[vc,ci f.op,ci f.n,sf,v0,v1,v2,v3,v4,v5,.slice A l.length c0,.string vn,.int .i64 (day)],w] I (fun u J=>∃z,u = .tuple #[z,.bool (isF c l t)]∧RdS J z ((ftsF f c b l vn day) t)):=by
 have hQ1:=b0a hvc hfm hb hv vn day;refine enter func156 call156 rfl ntmps156 rfl fun w0=>?_;refine go 4 fun g2=>?_
 refine go 10 ?_;refine a0p (b5m _ _ l hv oM hsl _ t hw) rfl rfl fun v12 I12 j12 q12=>?_
 try have hvc:=hvc.le j12
 try have hfm:=hfm.le j12
 try have hb:=hb.le j12
 try have hv:=hv.le j12
 try have hw:=hw.le j12
 try have hz:=hz.le j12
 try have cg2:=cg2.le j12
 try have q24:=q24.le j12
 try have kq:=kq.le j12
 try have hVd:=hVd.le j12
 obtain⟨z,rfl,hz⟩:=q12;have hpl:=b5c l t;refine go 8 ?_;refine a0z fun Ig2 jg2 cg2=>?_
 try have hvc:=hvc.le jg2
 try have hfm:=hfm.le jg2
 try have hb:=hb.le jg2
 try have hv:=hv.le jg2
 try have hw:=hw.le jg2
 try have hz:=hz.le jg2
 try have cg2:=cg2.le jg2
 try have q24:=q24.le jg2
 try have kq:=kq.le jg2
 try have hVd:=hVd.le jg2
 refine a1G fun hE2 hf2=>?_;refine go 1 ?_;refine dG 0 1 ?_;refine a0E 1 rfl rfl (by kernel_rfl) rfl .slnil rfl (a0N he rfl (cg2.sub 0 4) rfl) ?_;refine dG 2 1 ?_;refine a0E 3 rfl rfl (by kernel_rfl) rfl .slnil rfl (a0N he rfl (cg2.sub 4 6) rfl) ?_;refine dG 4 2 ?_;refine a0E 6 rfl rfl (by kernel_rfl) rfl .slnil rfl (a0v he rfl (cg2 11 _ rfl)) ?_;refine dG 7 1 ?_;refine a0E 8 rfl rfl (by kernel_rfl) rfl .slnil rfl (a0v he rfl (cg2 12 _ rfl)) ?_;refine dG 10 2 ?_;refine a0E 12 rfl rfl (by kernel_rfl) rfl .slnil rfl (a0N he rfl (cg2.sub 0 1) rfl) ?_;refine dG 13 1 ?_;refine a0E 14 rfl rfl (by kernel_rfl) rfl .slnil rfl (a0v he rfl (cg2 10 _ rfl)) ?_;refine dG 15 1 ?_;refine dH 9 0 ?_;refine a0p (d7M _ vc c hvc hsc f sf hfm v0 v1 v2 v3 v4 v5 b hb hok z (a2i l t).1 hz oM (b5f hsl) vn day) rfl rfl fun v24 I24 j24 q24=>?_
 try have hvc:=hvc.le j24
 try have hfm:=hfm.le j24
 try have hb:=hb.le j24
 try have hv:=hv.le j24
 try have hw:=hw.le j24
 try have hz:=hz.le j24
 try have cg2:=cg2.le j24
 try have q24:=q24.le j24
 try have kq:=kq.le j24
 try have hVd:=hVd.le j24
 refine dH 16 0 ?_;refine a0p (d8c _ vc c hvc hsc _ l hv oM hsl _ t hw) rfl rfl fun v31 I31 j31 q31=>?_
 try have hvc:=hvc.le j31
 try have hfm:=hfm.le j31
 try have hb:=hb.le j31
 try have hv:=hv.le j31
 try have hw:=hw.le j31
 try have hz:=hz.le j31
 try have cg2:=cg2.le j31
 try have q24:=q24.le j31
 try have kq:=kq.le j31
 try have hVd:=hVd.le j31
 obtain rfl:=q31;refine dG 17 2 ?_;refine go 4 ?_;exact q_i ⟨_,rfl,q24⟩
theorem d3z (I:IMap) (vc:Value) (c:List Kind) (hvc:RdS I vc c) (hsc:SmC c) (f:Fm) (sf:Value) (hfm:FmRd I [ci f.op,ci f.n,sf] f) (v0 v1 v2 v3 v4 v5:Value) (b:Bok) (hb:BokRd I v0 v1 v2 v3 v4 v5 b) (hok:OkBok b) (vn:ByteArray) (day:Int) (A:Option Addr) (c0:Nat) (l:List Rep) (hv:RdS I (.slice A l.length c0) l) (hl:l.length≤25) (hsl:∀r∈l,∀e∈r.options,SmE e) (w:Value) (t:List Int) (hw:RdS I w t) (gk gq:Nat) (kq:ICells I gq 0 [vc,ci f.op,ci f.n,sf,v0,v1,v2,v3,v4,v5,.slice A l.length c0,.string vn,.int .i64 (day)]) (n:Int) :
    FnG prog 155 #[w,.pointer (some ⟨gk,0,none⟩),.pointer (some ⟨gq,0,none⟩)] I (.blk gk 3 [ci n]) (fun u J r=>u = .bool (c0t c l (ftsF f c b l vn day) n t).1∧r = .blk gk 3 [ci (c0t c l (ftsF f c b l vn day) n t).2]):=by
 refine enter func155 call155 rfl ntmps155 rfl fun w0=>?_;refine go 8 ?_;refine o_v rfl (b2x rfl rfl) ?_;refine go 6 ?_;refine o_v rfl (a0N he rfl kq rfl) ?_;refine go 2 ?_;refine a0p (b7x _ vc c hvc hsc f sf hfm v0 v1 v2 v3 v4 v5 b hb hok vn day A c0 l hv hl hsl w t hw) rfl rfl fun v12 I12 j12 q12=>?_
 try have hvc:=hvc.le j12
 try have hfm:=hfm.le j12
 try have hb:=hb.le j12
 try have hv:=hv.le j12
 try have hw:=hw.le j12
 try have hz:=hz.le j12
 try have cg2:=cg2.le j12
 try have q24:=q24.le j12
 try have kq:=kq.le j12
 try have hVd:=hVd.le j12
 obtain⟨z,rfl,hz⟩:=q12;obtain⟨ZA,zc,rfl,_,_,_⟩:=id hz;refine gS 11 16 (fun h16 p16=>?_) fun h16 p16=>?_
 ·refine go 9 ?_;exact q_g ⟨congrArg Value.bool (by simp only[c0t,h16,bS]),rfl⟩
 ·refine go 9 ?_;exact q_g ⟨congrArg Value.bool (by simp only[c0t,h16,bS]),rfl⟩
theorem d6F (I:IMap) (vc:Value) (c:List Kind) (hvc:RdS I vc c) (hsc:SmC c) (f:Fm) (sf:Value) (hfm:FmRd I [ci f.op,ci f.n,sf] f) (v0 v1 v2 v3 v4 v5:Value) (b:Bok) (hb:BokRd I v0 v1 v2 v3 v4 v5 b) (hok:OkBok b) (vn:ByteArray) (day:Int) (A:Option Addr) (c0:Nat) (l:List Rep) (hv:RdS I (.slice A l.length c0) l) (hl:l.length≤25) (hsl:∀r∈l,∀e∈r.options,SmE e) (hva:(l.any fun r=>!a0g r)=false) (vd:Vdt) (k h u:Value) (hVd:VdRd I k h u vd) :
    FnI prog 74 #[.agg #[vc,ci f.op,ci f.n,sf,v0,v1,v2,v3,v4,v5,.slice A l.length c0,.string vn,.int .i64 (day)],.agg (vd.cs k h u).toArray] I (fun r J=>r = .bool (c7n c l (ftsF f c b l vn day) vd)):=by
 have hQ1:=b0a hvc hfm hb hv vn day;obtain⟨KA,kc,rfl,_,_,_⟩:=id hVd.k;obtain⟨HA,hc,rfl,_,hh1,hh2⟩:=id hVd.h;obtain⟨UA,uc,rfl,_,hf1,hf2⟩:=id hVd.f;refine enter func74 call74 rfl ntmps74 rfl fun w0=>?_;refine go 4 fun g2=>?_
 refine go 2 fun g3=>?_
 refine go 7 fun g5=>?_
 refine go 8 ?_;refine o_v rfl (a1V ([ci vd.proof.op,ci vd.proof.n,.slice KA vd.proof.kids.length kc]) m1 he rfl rfl rfl) ?_;refine a0c ?_;refine a0z fun Ig2 jg2 cg2=>?_
 try have hvc:=hvc.le jg2
 try have hfm:=hfm.le jg2
 try have hb:=hb.le jg2
 try have hv:=hv.le jg2
 try have hw:=hw.le jg2
 try have hz:=hz.le jg2
 try have cg2:=cg2.le jg2
 try have q24:=q24.le jg2
 try have kq:=kq.le jg2
 try have hVd:=hVd.le jg2
 refine go 2 ?_;refine a1k (c1r _ vc c hvc hsc f sf v0 v1 v2 v3 v4 v5 hb.one vn day A c0 l hv hl hsl hva vd.proof _ (a3y hVd.k) (fun n=>.blk g5 3 [ci n]) (c0t c l (ftsF f c b l vn day)) 155 [.pointer (some ⟨g5,0,none⟩),.pointer (some ⟨g2,0,none⟩)] (fun J hJ s w t hw _=>d3z J vc c (hvc.le hJ) hsc f sf (hfm.le hJ) v0 v1 v2 v3 v4 v5 b (hb.le hJ) hok vn day A c0 l (hv.le hJ) hl hsl w t hw g5 g2 (cg2.le hJ) s) 0) rfl rfl fun v11 I11 s11 j11 q11=>?_
 try have hvc:=hvc.le j11
 try have hfm:=hfm.le j11
 try have hb:=hb.le j11
 try have hv:=hv.le j11
 try have hw:=hw.le j11
 try have hz:=hz.le j11
 try have cg2:=cg2.le j11
 try have q24:=q24.le j11
 try have kq:=kq.le j11
 try have hVd:=hVd.le j11
 obtain⟨b11,s11,rfl,rfl,hbt,hbf⟩:=q11;refine gS 7 13 (fun h13 p13=>?_) fun h13 p13=>?_
 ·obtain⟨n11,hv11⟩:=hbt h13;refine gS 4 17 (fun h17 p17=>?_) fun h17 p17=>?_
  ·refine go 6 ?_;refine a0A (a0n rfl rfl h17 (a0q rfl (b2x rfl rfl) ?_));refine a0A (a0n rfl rfl h17 (a0q rfl (OV.cast (u:=.bool (decide (((vd.hist.length:Nat):Int)+((vd.faults.length:Nat):Int)=0))) (c0E rfl rfl) (b5I (Nat.le_trans hh1 hh2) (Nat.le_trans hf1 hf2))) ?_));refine go 6 ?_;exact q_i (congrArg Value.bool (by simp only[c7n,hv11,h13,h17,bS]))
  ·refine go 14 ?_;exact q_i (congrArg Value.bool (by simp only[c7n,hv11,h13,h17,bS]))
 ·have hv11:=hbf h13;refine go 18 ?_;exact q_i (congrArg Value.bool (by simp only[c7n,hv11,h13,bS]))
theorem c9D (I:IMap) (w:Value) :
    FnV prog 157 #[w] I (.bool false):=by
 refine enter func157 call157 rfl ntmps157 rfl fun w0=>?_;refine go 12 ?_;exact q_v rfl
theorem d3y (I:IMap) (vc:Value) (c:List Kind) (hvc:RdS I vc c) (hsc:SmC c) (f:Fm) (sf:Value) (hfm:FmRd I [ci f.op,ci f.n,sf] f) (v0 v1 v2 v3 v4 v5:Value) (b:Bok) (hb:BokRd I v0 v1 v2 v3 v4 v5 b) (hok:OkBok b) (vn:ByteArray) (day:Int) (A:Option Addr) (c0:Nat) (l:List Rep) (hv:RdS I (.slice A l.length c0) l) (hl:l.length≤25) (hsl:∀r∈l,∀e∈r.options,SmE e) (hva:(l.any fun r=>!a0g r)=false) (vd:Vdt) (k h u:Value) (hVd:VdRd I k h u vd) :
    FnI prog 75 #[.agg #[vc,ci f.op,ci f.n,sf,v0,v1,v2,v3,v4,v5,.slice A l.length c0,.string vn,.int .i64 (day)],.agg (vd.cs k h u).toArray] I (fun r J=>r = .bool (c8N c l vd)):=by
 have hQ1:=b0a hvc hfm hb hv vn day;obtain⟨KA,kc,rfl,_,_,_⟩:=id hVd.k;obtain⟨HA,hc,rfl,_,hh1,hh2⟩:=id hVd.h;obtain⟨UA,uc,rfl,_,hf1,hf2⟩:=id hVd.f;refine enter func75 call75 rfl ntmps75 rfl fun w0=>?_;refine go 4 fun g2=>?_
 refine go 2 fun g3=>?_
 refine go 11 ?_;refine o_v rfl (b2x rfl rfl) ?_;refine o_v rfl (OV.cast (u:=.bool (decide (((vd.hist.length:Nat):Int)+((vd.faults.length:Nat):Int)=0))) (c0E rfl rfl) (b5I (Nat.le_trans hh1 hh2) (Nat.le_trans hf1 hf2))) ?_;refine gS 1 13 (fun h13 p13=>?_) fun h13 p13=>?_
 ·refine go 2 ?_;refine a0A (a0n rfl rfl h13 (a0q rfl (a1V ([ci vd.proof.op,ci vd.proof.n,.slice KA vd.proof.kids.length kc]) m0 he rfl rfl rfl) ?_));refine go 1 ?_;refine a0G 0 0 ?_;refine a0n rfl rfl h13 (a1k (c1r _ vc c hvc hsc f sf v0 v1 v2 v3 v4 v5 hb.one vn day A c0 l hv hl hsl hva vd.proof _ (a3y hVd.k) (fun (_:Unit)=>.row (.slice none 0 0) 0 0 0 []) d0Z 157 [] (fun J hJ s w t hw _=>FnG.of_V (c9D J w)) ()) rfl rfl (fun v17 I17 r17 j17 q17=>?_));obtain⟨b17,s17,rfl,rfl,hbt,hbf⟩:=q17
  have e17:(visF c l d0Z vd.proof (b3Z l) 0 ()).isSome=b17:=by
    cases b17 with
    |true=>obtain⟨n,h⟩:=hbt rfl;rw[h];rfl
    |false=>rw[hbf rfl];rfl
  refine go 6 ?_;exact q_i (congrArg Value.bool (by simp only[c8N,e17,h13,bS]))
 ·refine go 10 ?_;exact q_i (congrArg Value.bool (by simp only[c8N,h13,bS]))
theorem c9C (I:IMap) (vc:Value) (c:List Kind) (hvc:RdS I vc c) (hsc:SmC c) (f:Fm) (sf:Value) (hfm:FmRd I [ci f.op,ci f.n,sf] f) (v0 v1 v2 v3 v4 v5:Value) (b:Bok) (hb:BokRd I v0 v1 v2 v3 v4 v5 b) (hok:OkBok b) (vn:ByteArray) (day:Int) (A:Option Addr) (c0:Nat) (l:List Rep) (hv:RdS I (.slice A l.length c0) l) (hl:l.length≤25) (hsl:∀r∈l,∀e∈r.options,SmE e) (hva:(l.any fun r=>!a0g r)=false) (vd:Vdt) (k h u:Value) (hVd:VdRd I k h u vd) :
    FnI prog 76 #[.agg #[vc,ci f.op,ci f.n,sf,v0,v1,v2,v3,v4,v5,.slice A l.length c0,.string vn,.int .i64 (day)],.agg (vd.cs k h u).toArray] I (fun r J=>r = .bool (c0P c l (ftsF f c b l vn day) vd)):=by
 have hQ1:=b0a hvc hfm hb hv vn day;obtain⟨KA,kc,rfl,_,_,_⟩:=id hVd.k;obtain⟨HA,hc,rfl,_,hh1,hh2⟩:=id hVd.h;obtain⟨UA,uc,rfl,_,hf1,hf2⟩:=id hVd.f;refine enter func76 call76 rfl ntmps76 rfl fun w0=>?_;refine go 4 fun g2=>?_
 refine go 2 fun g3=>?_
 refine go 9 ?_;refine a0p (b7x _ vc c hvc hsc f sf hfm v0 v1 v2 v3 v4 v5 b hb hok vn day A c0 l hv hl hsl _ vd.hist hVd.h) rfl rfl fun v11 I11 j11 q11=>?_
 try have hvc:=hvc.le j11
 try have hfm:=hfm.le j11
 try have hb:=hb.le j11
 try have hv:=hv.le j11
 try have hw:=hw.le j11
 try have hz:=hz.le j11
 try have cg2:=cg2.le j11
 try have q24:=q24.le j11
 try have kq:=kq.le j11
 try have hVd:=hVd.le j11
 obtain⟨z,rfl,hz⟩:=q11;obtain⟨ZA,zc,rfl,_,_,_⟩:=id hz;refine gS 11 15 (fun h15 p15=>?_) fun h15 p15=>?_
 ·refine gS 5 20 (fun h20 p20=>?_) fun h20 p20=>?_
  ·refine go 4 ?_;refine a0n rfl rfl h20 (a0y (c1Q _ _ _ hz _ _ hVd.f) rfl rfl ?_);refine gS 2 26 (fun h26 p26=>?_) fun h26 p26=>?_
   ·refine gS 6 32 (fun h32 p32=>?_) fun h32 p32=>?_
    ·refine gS 6 38 (fun h38 p38=>?_) fun h38 p38=>?_
     ·refine go 11 ?_;exact q_i (congrArg Value.bool (by simp only[c0P,h15,h20,h26,h32,h38,bS]))
     ·refine go 11 ?_;exact q_i (congrArg Value.bool (by simp only[c0P,h15,h20,h26,h32,h38,bS]))
    ·refine go 17 ?_;exact q_i (congrArg Value.bool (by simp only[c0P,h15,h20,h26,h32,bS]))
   ·refine go 23 ?_;exact q_i (congrArg Value.bool (by simp only[c0P,h15,h20,h26,bS]))
  ·refine go 29 ?_;exact q_i (congrArg Value.bool (by simp only[c0P,h15,h20,bS]))
 ·refine go 34 ?_;exact q_i (congrArg Value.bool (by simp only[c0P,h15,bS]))
theorem d3x (I:IMap) (vc:Value) (c:List Kind) (hvc:RdS I vc c) (hsc:SmC c) (f:Fm) (sf:Value) (hfm:FmRd I [ci f.op,ci f.n,sf] f) (v0 v1 v2 v3 v4 v5:Value) (b:Bok) (hb:BokRd I v0 v1 v2 v3 v4 v5 b) (hok:OkBok b) (vn:ByteArray) (day:Int) (A:Option Addr) (c0:Nat) (l:List Rep) (hv:RdS I (.slice A l.length c0) l) (hl:l.length≤25) (hsl:∀r∈l,∀e∈r.options,SmE e) (hva:(l.any fun r=>!a0g r)=false) (vd:Vdt) (k h u:Value) (hVd:VdRd I k h u vd):∃(z:Value) (bb:Bool),(a3Z (d5V 74 75 76 (.agg #[vc,ci f.op,ci f.n,sf,v0,v1,v2,v3,v4,v5,.slice A l.length c0,.string vn,.int .i64 (day)])) vd.kind).getD .nilFunc=z∧(a3Z (d5V 74 75 76 (.agg #[vc,ci f.op,ci f.n,sf,v0,v1,v2,v3,v4,v5,.slice A l.length c0,.string vn,.int .i64 (day)])) vd.kind).isSome=bb∧(bb=false→(b4I c l (ftsF f c b l vn day) vd)=false) ∧
  (bb=true→∃n,z = .func (.func n) #[(.agg #[vc,ci f.op,ci f.n,sf,v0,v1,v2,v3,v4,v5,.slice A l.length c0,.string vn,.int .i64 (day)])] #[]∧FnI prog n #[(.agg #[vc,ci f.op,ci f.n,sf,v0,v1,v2,v3,v4,v5,.slice A l.length c0,.string vn,.int .i64 (day)]),.agg (vd.cs k h u).toArray] I fun r _=>r = .bool (b4I c l (ftsF f c b l vn day) vd)):=by
 refine⟨_,_,rfl,rfl,?_,?_⟩
 ·intro h;rw[b7m]at h
  unfold b4I
  by_cases h1:vd.kind=1
  ·rw[if_pos h1]at h;cases h
  by_cases h3:vd.kind=3
  ·rw[if_neg h1,if_pos h3]at h;cases h
  by_cases h2:vd.kind=2
  ·rw[if_neg h1,if_neg h3,if_pos h2]at h;cases h
  rw[if_neg h1,if_neg h3,if_neg h2]
 ·intro h9;rw[b7m]at h9 ⊢
  unfold b4I
  by_cases h1:vd.kind=1
  ·rw[if_pos h1,if_pos h1];exact⟨_,rfl,d6F _ vc c hvc hsc f sf hfm v0 v1 v2 v3 v4 v5 b hb hok vn day A c0 l hv hl hsl hva vd k h u hVd⟩
  by_cases h3:vd.kind=3
  ·rw[if_neg h1,if_pos h3,if_neg h1,if_pos h3];exact⟨_,rfl,d3y _ vc c hvc hsc f sf hfm v0 v1 v2 v3 v4 v5 b hb hok vn day A c0 l hv hl hsl hva vd k h u hVd⟩
  by_cases h2:vd.kind=2
  ·rw[if_neg h1,if_neg h3,if_pos h2,if_neg h1,if_neg h3,if_pos h2];exact⟨_,rfl,c9C _ vc c hvc hsc f sf hfm v0 v1 v2 v3 v4 v5 b hb hok vn day A c0 l hv hl hsl hva vd k h u hVd⟩
  rw[if_neg h1,if_neg h3,if_neg h2]at h9;cases h9
theorem d6E (I:IMap) (r:Rep) (S:Option Addr) (d:Nat) (hr:RdS I (.slice S r.options.length d) r.options) (hs:∀e∈r.options,SmE e) :
    FnV prog 73 #[.agg (r.cells (.slice S r.options.length d)).toArray] I (.bool (!a0g r)):=by
 refine enter func73 call73 rfl ntmps73 rfl fun w0=>?_;refine go 4 fun g1=>?_
 refine go 7 ?_;refine cV (a7M _ r S d hr hs) ?_;refine go 6 ?_;exact q_v rfl
theorem a5l (I:IMap) (vc:Value) (c:List Kind) (hvc:RdS I vc c) (hsc:SmC c) (f:Fm) (sf:Value) (hfm:FmRd I [ci f.op,ci f.n,sf] f) (v:Value) (l:List Rep) (hv:RdS I v l) (hl:l.length≤25) (hsl:∀r∈l,∀e∈r.options,SmE e) (R:Nat→Nat) (hRt:Rts l R) (v0 v1 v2 v3 v4 v5:Value) (b:Bok) (hb:BokRd I v0 v1 v2 v3 v4 v5 b) (hok:OkBok b) (vn:ByteArray) (day:Int) (vd:Vdt) (k h u:Value) (hVd:VdRd I k h u vd) :
    FnI prog 23 #[.agg #[vc,ci f.op,ci f.n,sf],.agg #[v0,v1,v2,v3,v4,v5],v,.string vn,.int .i64 (day),.agg (vd.cs k h u).toArray] I (fun r J=>r = .bool (accF f c b l (a1c l R vn) vn day vd)):=by
 have hv0:=hv;obtain⟨A,c0,rfl,hA,hc0,hm⟩:=hv;refine enter func23 call23 rfl ntmps23 rfl fun w0=>?_;refine go 4 fun g6=>?_
 refine go 2 fun g7=>?_
 refine go 2 fun g11=>?_
 refine go 8 ?_;refine a0p (b6o _ vc c hvc hsc f sf hfm _ [] RdS.nil' (by simp) (fun e he=>by cases he) 0) rfl rfl fun v23 I23 j23 q23=>?_
 try have hvc:=hvc.le j23
 try have hfm:=hfm.le j23
 try have hb:=hb.le j23
 try have hv0:=hv0.le j23
 try have hA:=hA.le j23
 try have Ro:=Ro.le j23
 try have hVd:=hVd.le j23
 obtain⟨w23,rfl,hw23⟩:=q23;refine go 6 fun g13=>?_
 refine go 1 ?_;refine a1d _ he rfl rfl rfl rfl rfl (by simp[RdS.one hw23]) ?_;refine gC 10 (fun h28 p28=>?_) fun h28 p28=>?_
 ·refine go 8 ?_;exact q_i (congrArg Value.bool (b2E (by simp only[h28,bS])).symm)
 ·have hrun:(runL f c [] 0).2.2=0:=by simpa using h28
  refine go 7 ?_;refine cV (a3Y _ _ l hv0 73 [] (fun r=>!a0g r) (fun x hx vs hr=>by obtain⟨q,rfl,S,d,rfl,hS,hd,hm⟩:=hr;exact d6E _ x S d ⟨_,_,rfl,hS,hd,hm⟩ (hsl _ hx))) ?_;refine gC 2 (fun h30 p30=>?_) fun h30 p30=>?_
  ·refine go 8 ?_;exact q_i (congrArg Value.bool (b2E (by rw[h30,Bool.or_true])).symm)
  ·have hva:(l.any fun r=>!a0g r)=false:=h30;have hvl:=a4R hva;have hcl2:=c3p (l:=l) (R:=R) (p:=vn);have hQ1:=b0a hvc hfm hb RdS.nil' vn day (l:=([]:List Rep));refine go 11 fun g16=>?_
   refine go 1 ?_;refine a1d _ he rfl rfl rfl rfl rfl hQ1 ?_;refine go 5 ?_;refine a0G 109 2 ?_;refine go 3 ?_;refine a0p (c8J _ _ l hv0 oM hsl vn R hRt) rfl rfl fun v38 I38 j38 q38=>?_
   try have hvc:=hvc.le j38
   try have hfm:=hfm.le j38
   try have hb:=hb.le j38
   try have hv0:=hv0.le j38
   try have hA:=hA.le j38
   try have Ro:=Ro.le j38
   try have hVd:=hVd.le j38
   obtain⟨CA,cc,rfl,hCA,hcc,hcm⟩:=q38;rw[b0A]at hcc ⊢
   refine go 5 ?_;refine a0c ?_;refine a0a ?_;refine a0u ?_;refine a0a ?_;refine a0u ?_;refine a0a ?_
   refine a4l ((0:Nat)) (none) (0) ([]) (fun i A16 c16 xs=>I38)
    (fun i A16 c16 xs=>[(2,.slice A l.length c0),(11,.pointer (some ⟨g11,0,none⟩)),(16,.pointer (some ⟨g16,0,none⟩)),(38,.slice CA (ofN l R vn).length cc),(39,.int .i64 (((ofN l R vn).length:Nat):Int)),(40,.int .i64 ((i:Nat):Int))])
    (fun i A16 c16 xs=>[.row (.slice A16 i c16) 109 2 i xs,.blk g16 159 [vc,ci f.op,ci f.n,sf,v0,v1,v2,v3,v4,v5,.slice A16 i c16,.string vn,.int .i64 (day)],.blk g11 48 (vd.cs k h u)])
    (fun i A16 c16 xs=>i≤(ofN l R vn).length∧Flat I38 xs (a5u l ((ofN l R vn).take i)))
    (fun i A16 c16 xs=>(ofN l R vn).length-i) ⟨Nat.zero_le _,.nil⟩ rfl sb rfl ?_
   intro i A16 c16 xs ⟨hi,hF⟩;have hcl3:(a1c l R vn).length=(ofN l R vn).length:=a7J fun i hi=>c2V hi
   refine gC 6 (fun h41 p41=>?_) fun h41 p41=>?_
   ·have hlt:i<(ofN l R vn).length:=oM;have hcl:(ofN l R vn)[i]<l.length:=c2V (List.getElem_mem hlt);refine go 6 ?_;obtain⟨b42,o42,w42,e42,c42,r42⟩:=RdA.at_ hCA (i:=i) (by first|exact hlt|(rw[b0A];exact hlt));rw[d4s hlt]at r42
    obtain rfl:=r42;refine o_v rfl (a0m he rfl rfl e42 (i) oM (by first|exact hlt|(rw[b0A];exact hlt))) ?_;refine go 4 ?_;refine a0b ?_;refine a0b ?_;refine ds2 ?_;refine dG 0 1 ?_;refine dG 2 2 ?_;obtain⟨b48,o48,w48,e48,c48,r48⟩:=RdA.at_ hA (i:=(ofN l R vn)[i]) hcl;obtain⟨q48,rfl,S48,d48,rfl,hS48,hd48,hm48⟩:=r48;refine a0E 4 rfl rfl (by kernel_rfl) rfl (.cons _ (.cons _ (.refl _))) rfl (a0m he rfl rfl e48 ((ofN l R vn)[i]) oM hcl) ?_;refine dG 5 1 ?_;refine dT2 1 6 ?_ ?_
    ·refine a0q rfl (b1f m1 he rfl rfl) ?_;refine dH 6 0 ?_;refine go 1 fun v50=>?_
     refine dH 7 0 ?_;refine a0b ?_;refine a0V he he rfl rfl rfl rfl rfl oM oM rfl fun v51=>?_;refine a1m fun A51 c51 hv51=>?_;subst hv51;refine dH 8 1 ?_;refine a0c ?_;refine go 10 ?_;refine a0c ?_;refine a0a ?_;refine a0c ?_;refine a0b ?_;refine a0c ?_;exact a1P (i+1) (_) (_) (_) ⟨oM,by rw[b0O hlt hcl];exact hF.append (.one ⟨_,rfl,⟨_,_,rfl,hS48,hd48,hm48⟩⟩)⟩ oM rfl sb rfl
    ·refine go 1 fun v50=>?_
     refine dH 1 0 ?_;refine a0q rfl (b1f m2 he rfl rfl) ?_;refine dH 7 0 ?_;refine a0b ?_;refine a0V he he rfl rfl rfl rfl rfl oM oM rfl fun v51=>?_;refine a1m fun A51 c51 hv51=>?_;subst hv51;refine dH 8 1 ?_;refine a0c ?_;refine go 10 ?_;refine a0c ?_;refine a0a ?_;refine a0c ?_;refine a0b ?_;refine a0c ?_;exact a1P (i+1) (_) (_) (_) ⟨oM,by rw[b0O hlt hcl];exact hF.append (.one ⟨_,rfl,⟨_,_,rfl,hS48,hd48,hm48⟩⟩)⟩ oM rfl sb rfl
   ·obtain rfl:i=(ofN l R vn).length:=oM;rw[List.take_length]at hF
    refine a0k (l:=(a1c l R vn)) rfl hcl3.symm hF fun I9 j9 Ro=>?_;have hvc:=hvc.le j9;have hfm:=hfm.le j9;have hb:=hb.le j9;have hVd:=hVd.le j9;rw[←hcl3]at Ro ⊢
    have hvo:((a1c l R vn).any fun r=>!a0g r)=false:=b5O.2 (a5b hvl);refine go 8 ?_;refine a4Z (Value.int .i64) he rfl fun r55=>?_;refine go 3 ?_;refine a4G ([(1,.func (.func 74) #[.agg #[vc,ci f.op,ci f.n,sf,v0,v1,v2,v3,v4,v5,.slice A16 (a1c l R vn).length c16,.string vn,.int .i64 (day)]] #[])]) (b3k he) he ((1)) rfl rfl rfl (rfl) ?_;refine go 3 ?_;refine a4G ([(1,.func (.func 74) #[.agg #[vc,ci f.op,ci f.n,sf,v0,v1,v2,v3,v4,v5,.slice A16 (a1c l R vn).length c16,.string vn,.int .i64 (day)]] #[]),(3,.func (.func 75) #[.agg #[vc,ci f.op,ci f.n,sf,v0,v1,v2,v3,v4,v5,.slice A16 (a1c l R vn).length c16,.string vn,.int .i64 (day)]] #[])]) (b3k he) he ((3)) rfl rfl rfl (rfl) ?_;refine go 3 ?_;refine a4G ([(1,.func (.func 74) #[.agg #[vc,ci f.op,ci f.n,sf,v0,v1,v2,v3,v4,v5,.slice A16 (a1c l R vn).length c16,.string vn,.int .i64 (day)]] #[]),(3,.func (.func 75) #[.agg #[vc,ci f.op,ci f.n,sf,v0,v1,v2,v3,v4,v5,.slice A16 (a1c l R vn).length c16,.string vn,.int .i64 (day)]] #[]),(2,.func (.func 76) #[.agg #[vc,ci f.op,ci f.n,sf,v0,v1,v2,v3,v4,v5,.slice A16 (a1c l R vn).length c16,.string vn,.int .i64 (day)]] #[])]) (b3k he) he ((2)) rfl rfl rfl (rfl) ?_;refine go 3 ?_;obtain⟨z,bb,hz,hbb,hbf,hzb⟩:=d3x _ vc c hvc hsc f sf hfm v0 v1 v2 v3 v4 v5 b hb hok vn day _ _ (a1c l R vn) Ro oM (fun r hr=>hsl r (b3y hr)) hvo vd k h u hVd;refine o_v rfl (a8W m0 (b3k he) he he (vd.kind) rfl rfl hz hbb) ?_;refine gS 11 69 (fun h69 p69=>?_) fun h69 p69=>?_
    ·obtain⟨n72,rfl,hc72⟩:=hzb h69;refine go 3 ?_;refine a0n rfl rfl h69 (a0p (hc72) rfl rfl (fun v72 I72 j72 q72=>?_))
     try have hvc:=hvc.le j72
     try have hfm:=hfm.le j72
     try have hb:=hb.le j72
     try have hv0:=hv0.le j72
     try have hA:=hA.le j72
     try have Ro:=Ro.le j72
     try have hVd:=hVd.le j72
     obtain rfl:=q72;refine go 6 ?_;exact q_i (congrArg Value.bool (b2F hrun hva).symm)
    ·refine go 9 ?_;exact q_i (congrArg Value.bool ((b2F hrun hva).trans (hbf h69)).symm)
end Go.Proofs.YtgmkjpafapgccaaGreat
namespace Go.Proofs.YtgmkjpafapgccaaGreat
open Go Go.Sx Tryz
set_option linter.all false
set_option maxRecDepth 20000
set_option maxHeartbeats 4000000
instance:Has (a2e prog 36) ([.string ⟨#[]⟩,.string ⟨#[]⟩,.int .i64 0,.string ⟨#[]⟩,.string ⟨#[]⟩,.int .i64 0,.int .i64 0,.slice none 0 0],8,112):=hk
instance:Has (a6J prog 31) (38,12):=hk
instance:Has (a1h prog 38 0) (0,false,1):=hk
instance:Has (a1h prog 38 1) (1,false,1):=hk
instance:Has (a1h prog 38 2) (2,false,1):=hk
instance:Has (a1h prog 38 3) (3,false,1):=hk
instance:Has (a1h prog 38 4) (4,true,8):=hk
instance:Has (tyK prog 38) (true,12):=hk
instance:Has (prog.underlying 31) (.slice 38):=hk
instance:Has (a1n prog 38) [.int .i64 0,.int .i64 0,.int .i64 0,.bool false,.string ⟨#[]⟩,.string ⟨#[]⟩,.int .i64 0,.string ⟨#[]⟩,.string ⟨#[]⟩,.int .i64 0,.int .i64 0,.slice none 0 0]:=hk
end Go.Proofs.YtgmkjpafapgccaaGreat
set_option linter.all false
namespace Go.Sx
open Go
section
variable {l:List Amd} {day clock:Int} {s:ByteArray} {i:Nat} {o:Option Amd} {a b:Amd}
end
abbrev d4q:ByteArray:=⟨#[98,97,116,99,104]⟩
abbrev nR:ByteArray:=⟨#[114]⟩
def c8C (p k:ByteArray):Evt:=⟨1,1,p,k,a0L,a0L,a0L,a0L,d2K⟩
def c8D (v:ByteArray):Evt:=⟨6,2,nM1,a0L,a0L,a0L,d4q,v,d2K⟩
def d6U:Evt:=⟨2,3,nM1,a0L,nV1,nM,a0L,a0L,d2K⟩
def fgL:List Rep:=[⟨[c8C nM1 b0B],false⟩,⟨[c8C nV1 nCoach],false⟩,⟨[c8D ⟨#[65]⟩,c8D ⟨#[66]⟩],false⟩,⟨[d6U],false⟩]
def fgB (l:List Rul) (c:List Cnc):Bok:=⟨l,[],[],c,[],[]⟩
def ofG (c:List Kind) (b:Bok) (e:List Evt) (vn:ByteArray) (day:Int) (r:List Part×Int×Int):List Flt:=
 if c9q c r.1 r.2.2 vn=true then [⟨4,vn,⟨#[]⟩⟩]
 else c0z a4n (a2q b c e r.1 day ((a0h r.1 vn).getD zPart)++(d2O r.1 vn).flatMap (fun n=>a2q b c e r.1 day ((a0h r.1 n).getD zPart))++a2T vn b.holds)
theorem c2U {f:Fm} {c:List Kind} {b:Bok} {e:List Evt} {vn:ByteArray} {day:Int} {x:List Flt} (h:(d6f f c e day).isSome=true) (hx:ofG c b e vn day ((d6f f c e day).getD ([],0,0))=x):ofF f c b e vn day=x:=by
 obtain⟨r,hr⟩:=Option.isSome_iff_exists.1 h;rw[hr]at hx
 show ofG c b e vn day (runL f c e day)=x
 rw[c3S hr];exact hx
theorem b7F {f:Fm} {c:List Kind} {b:Bok} {l own:List Rep} {vn:ByteArray} {day:Int} {k:Int} (h:(runL f c [] 0).2.2=0) (hv:(l.any fun r=>!a0g r)=false)
  (hk:(match (a2g c own).find? fun t=>!(ftsF f c b own vn day t).isEmpty with|some _=>2|none=>if (a2g c own).isEmpty=true then 3 else 1)=k):(decR f c b l own vn day).kind=k:=by
 rw[b0e h hv,←hk];unfold b9u
 cases (a2g c own).find? fun t=>!(ftsF f c b own vn day t).isEmpty<;>rfl
theorem d3U {l:List Rul} {cs:List Cnc} (h:∀r∈l,b2D r) (hl:l.length≤100):OkBok (fgB l cs):=
 ⟨h,(fun _ h=>by cases h),(fun _ h=>by cases h),hl,Nat.zero_le _,Nat.zero_le _,Nat.zero_le _⟩
theorem a6K {I:IMap} {w v:Value} {l:List Rul} {cs:List Cnc} (h:RdS I w l) (h2:RdS I v cs):BokRd I w (.slice none 0 0) (.slice none 0 0) v (.slice none 0 0) (.slice none 0 0) (fgB l cs):=⟨h,RdS.nil',RdS.nil',h2,RdS.nil',RdS.nil'⟩
theorem a4L {I:IMap}:FmRd I [ci bxF.op,ci bxF.n,.slice none 0 0] bxF:=fm_in 2 0 RdS.nil'
section
variable {R:Nat→Nat} (hR:Rts fgL R)
include hR
end
section
variable {l:List Amd} {late:Amd} {day clock:Int} {i:Nat}
end
end Go.Sx
namespace Go.Proofs.YtgmkjpafapgccaaGreat
open Go Go.Sx Tryz
set_option linter.all false
set_option maxRecDepth 20000
set_option maxHeartbeats 4000000
theorem b0U (I:IMap) (N:Nat) (ih:∀x,cntX x≤N→∀vs,XpRd I vs x→∀m:Int,0≤m→m≤80→FnE prog 185 #[.agg vs.toArray,.int .i64 (m)] I (fun u=>∃n:Int,u=ci n∧1≤n∧n≤m+1)) (x:Xp) (hN:cntX x≤N+1) (vs:List Value) (hx:XpRd I vs x) (m:Int) (hm0:0≤m) (hm1:m≤80) :
    FnE prog 185 #[.agg vs.toArray,.int .i64 (m)] I (fun u=>∃n:Int,u=ci n∧1≤n∧n≤m+1):=by
 obtain⟨sk,rfl,hk⟩:=b1m hx;obtain⟨K0,kc,rfl,hK,hkc,hkm⟩:=hk;refine enter func185 call185 rfl ntmps185 rfl fun w0=>?_;refine go 4 fun g2=>?_
 refine go 15 ?_
 refine a0H ((0:Nat)) ((1:Int)) (fun i n=>I)
  (fun i n=>[(1,.int .i64 (m)),(2,.pointer (some ⟨g2,0,none⟩)),(5,.int .i64 (n)),(6,.int .i64 ((i:Nat):Int))])
  (fun i n=>[.blk g2 34 [ci x.op,.string x.name,.string x.value,ci x.n,ci x.extra,.slice K0 x.kids.length kc]])
  (fun i n=>i≤x.kids.length∧1≤n∧n≤m+1)
  (fun i n=>x.kids.length-i) ⟨Nat.zero_le _,Int.le_refl _,oM⟩ rfl sb rfl ?_
 intro i n ⟨hi,hn0,hn1⟩;refine gS 9 12 (fun h12 p12=>?_) fun h12 p12=>?_
 ·refine gC 6 (fun h16 p16=>?_) fun h16 p16=>?_
  ·have hlt:i<x.kids.length:=oM;refine go 9 ?_;obtain⟨b23,o23,w23,e23,c23,r23⟩:=RdA.at_ hK (i:=i) oM;refine go 1 ?_;refine o_v rfl (a0N he rfl c23 (Enc.len r23)) ?_;refine go 4 ?_;refine a0W (ih x.kids[i] (by have:=a7l (List.getElem_mem (show i<x.kids.length from oM));omega) _ r23 (m-n) oM oM) rfl rfl fun v28 q28=>?_;obtain⟨n28,rfl,hn28,hn29⟩:=q28;refine go 11 ?_;exact a0r (i+1) (n+n28) ⟨oM,oM,oM⟩ oM rfl sb rfl
  ·refine go 13 ?_;exact q_e ⟨n,rfl,hn0,hn1⟩
 ·refine go 20 ?_;exact q_e ⟨n,rfl,hn0,hn1⟩
theorem c0r (I:IMap) (x:Xp) (vs:List Value) (hx:XpRd I vs x) (m:Int) (hm0:0≤m) (hm1:m≤80):FnE prog 185 #[.agg vs.toArray,.int .i64 (m)] I (fun u=>∃n:Int,u=ci n∧1≤n∧n≤m+1):=by
 have key:∀N x,cntX x≤N→∀vs,XpRd I vs x→∀m:Int,0≤m→m≤80→FnE prog 185 #[.agg vs.toArray,.int .i64 (m)] I (fun u=>∃n:Int,u=ci n∧1≤n∧n≤m+1):=by
  intro N
  induction N with
  |zero=>intro x h;cases x;simp[cntX]at h
  |succ N ih=>exact fun x hN vs hx m h0 h1=>b0U I N ih x hN vs hx m h0 h1
 exact key (cntX x) x (Nat.le_refl _) vs hx m hm0 hm1
theorem b0V (I:IMap) (N:Nat) (ih:∀x,cntX x≤N→∀vs,XpRd I vs x→FnE prog 186 #[.agg vs.toArray] I (fun u=>∃b:Bool,u = .bool b)) (x:Xp) (hN:cntX x≤N+1) (vs:List Value) (hx:XpRd I vs x) :
    FnE prog 186 #[.agg vs.toArray] I (fun u=>∃b:Bool,u = .bool b):=by
 obtain⟨sk,rfl,hk⟩:=b1m hx;obtain⟨K0,kc,rfl,hK,hkc,hkm⟩:=hk;refine enter func186 call186 rfl ntmps186 rfl fun w0=>?_;refine go 4 fun g1=>?_
 refine gS 11 8 (fun h8 p8=>?_) fun h8 p8=>?_
 ·refine go 16 ?_;exact q_e ⟨_,rfl⟩
 ·refine gC 7 (fun h13 p13=>?_) fun h13 p13=>?_
  ·refine go 8 ?_;exact q_e ⟨_,rfl⟩
  ·refine go 9 ?_
   refine a0x (α:=Nat) (0:Nat) (fun i=>I)
    (fun i=>[(1,.pointer (some ⟨g1,0,none⟩)),(3,.int .i64 ((i:Nat):Int))])
    (fun i=>[.blk g1 34 [ci x.op,.string x.name,.string x.value,ci x.n,ci x.extra,.slice K0 x.kids.length kc]])
    (fun i=>i≤x.kids.length)
    (fun i=>x.kids.length-i) (Nat.zero_le _) rfl sb rfl ?_
   intro i hi;refine gC 10 (fun h18 p18=>?_) fun h18 p18=>?_
   ·have hlt:i<x.kids.length:=oM;refine go 9 ?_;obtain⟨b24,o24,w24,e24,c24,r24⟩:=RdA.at_ hK (i:=i) hlt;refine go 1 ?_;refine o_v rfl (a0N he rfl c24 (Enc.len r24)) ?_;refine go 1 ?_;refine a0W (ih x.kids[i] (by have:=a7l (List.getElem_mem hlt);omega) _ r24) rfl rfl fun v26 q26=>?_;obtain⟨b26,rfl⟩:=q26;refine gC 3 (fun h27 p27=>?_) fun h27 p27=>?_
    ·refine go 12 ?_;exact q_e ⟨_,rfl⟩
    ·refine go 9 ?_;exact a0w (i+1) oM oM rfl sb rfl
   ·refine go 12 ?_;exact q_e ⟨_,rfl⟩
theorem c0s (I:IMap) (x:Xp) (vs:List Value) (hx:XpRd I vs x):FnE prog 186 #[.agg vs.toArray] I (fun u=>∃b:Bool,u = .bool b):=by
 have key:∀N x,cntX x≤N→∀vs,XpRd I vs x→FnE prog 186 #[.agg vs.toArray] I (fun u=>∃b:Bool,u = .bool b):=by
  intro N
  induction N with
  |zero=>intro x h;cases x;simp[cntX]at h
  |succ N ih=>exact fun x hN vs hx=>b0V I N ih x hN vs hx
 exact key (cntX x) x (Nat.le_refl _) vs hx
theorem c3H (I:IMap) (x:Xp) (vs:List Value) (hx:XpRd I vs x) :
    FnE prog 98 #[.agg vs.toArray] I (fun u=>∃b:Bool,u = .bool b):=by
 refine enter func98 call98 rfl ntmps98 rfl fun w0=>?_;refine go 4 fun g1=>?_
 refine go 5 ?_;refine o_v rfl (a2y m0 he rfl (Enc.len (α:=Xp) hx)) ?_;refine go 1 ?_;refine a0W (c0r _ x vs hx 80 oM oM) rfl rfl fun v4 q4=>?_;obtain⟨n4,rfl,hn4,hn5⟩:=q4;refine gS 2 6 (fun h6 p6=>?_) fun h6 p6=>?_
 ·refine a0A (a0n rfl rfl h6 (a0q rfl (a2y m0 he rfl (Enc.len (α:=Xp) hx)) ?_));refine go 1 ?_;refine a0n rfl rfl h6 (a0W (c0s _ x vs hx) rfl rfl (fun v8 q8=>?_));obtain⟨b8,rfl⟩:=q8;refine go 6 ?_;exact q_e ⟨_,rfl⟩
 ·refine go 8 ?_;exact q_e ⟨_,rfl⟩
theorem c7j (I:IMap) (r:Rul) (s:Value) (hs:RdS I s r.cond.kids) :
    FnE prog 37 #[.agg (r.cs s).toArray] I (fun u=>∃b:Bool,u = .bool b):=by
 obtain⟨SA,sc,rfl,_,_,_⟩:=id hs;refine enter func37 call37 rfl ntmps37 rfl fun w0=>?_;refine go 4 fun g1=>?_
 refine go 11 ?_;refine o_v rfl (b2x rfl rfl) ?_;refine gS 2 11 (fun h11 p11=>?_) fun h11 p11=>?_
 ·refine go 1 ?_;refine a0A (a0n rfl rfl h11 (a0q rfl (a1V (r.cond.cs (.slice SA r.cond.kids.length sc)) m0 he rfl rfl rfl) ?_));refine go 1 ?_;refine a0n rfl rfl h11 (a0W (c3H _ r.cond _ (b3N hs)) rfl rfl (fun v14 q14=>?_));obtain⟨b14,rfl⟩:=q14;refine go 6 ?_;exact q_e ⟨_,rfl⟩
 ·refine go 9 ?_;exact q_e ⟨_,rfl⟩
end Go.Proofs.YtgmkjpafapgccaaGreat
set_option linter.all false
namespace Go.Sx
open Go
section
variable {σ:Type} {c:List Kind} {l:List Rep} {E:σ→List Int→Bool×σ} {x:Fm} {ch:List Int} {n:Int} {s:σ} {q:Int×σ} {a i:Nat}
theorem b9d (hp:∀r∈l,a0g r=true):∀N ch (n:Int) s,Opn l ch→a9d ch≤N→n+(cntN (a2d c l N ch):Nat)≤4096→(∀t∈a2h c l N ch,∀s,(E s t).1=true) →
  visF c l E (a2d c l N ch) ch n s=some (n+(cntN (a2d c l N ch):Nat),(a2h c l N ch).foldl (fun s t=>(E s t).2) s):=by
 intro N
 induction N with
 |zero=>
  intro ch n s ho hn hc he
  cases hf:a1B c l ch with
  |true=>
   rw[a3b hf,a4V hf]at *
   rw[c0K (by simp[cntN,cntNL]at hc;omega) rfl rfl,if_pos hf]
   simp[cntN,cntNL]
  |false=>
   have hs:a1C l ch<0:=by
    by_cases hs:a1C l ch<0
    ·exact hs
    ·obtain⟨a,e,ha,hb,hna,hca⟩:=a3l ho hs;have:=a5q (k:=0) hb hna (Int.le_refl 0);omega
   rw[a3c hf hs,a4W hf hs]at *
   rw[b7i (by simp[cntN,cntNL]at hc;omega) rfl rfl,if_neg (fun hm=>by have:=a9y ho hs _ hm;omega),if_pos (he ch (by simp) s)]
   simp[cntN,cntNL]
 |succ N ih=>
  intro ch n s ho hn hc he
  cases hf:a1B c l ch with
  |true=>
   rw[a3b hf,a4V hf]at *
   rw[c0K (by simp[cntN,cntNL]at hc;omega) rfl rfl,if_pos hf]
   simp[cntN,cntNL]
  |false=>
   by_cases hs:a1C l ch<0
   ·rw[a3c hf hs,a4W hf hs]at *
    rw[b7i (by simp[cntN,cntNL]at hc;omega) rfl rfl,if_neg (fun hm=>by have:=a9y ho hs _ hm;omega),if_pos (he ch (by simp) s)]
    simp[cntN,cntNL]
   ·obtain⟨a,e,ha,hb,hna,hca⟩:=a3l ho hs;have hk:=a7w (c:=c) (l:=l) (n:=N) (ch:=ch) (a:=a) (by rw[a5y ha];omega);rw[a5y ha]at hk
    have hends:a2h c l (N+1) ch=a5p c l N ch a (a2s c l N ch a).length:=by rw[a6m hf e,a5y ha,←hk];rfl
    rw[hends]at he ⊢
    rw[a2n hf e,b2N]at hc ⊢
    have hsp:a8E l ch (a:Int) (a2s c l N ch a).length=false:=by
     unfold a8E;rw[a5y (show ((a:Nat):Int).toNat<l.length from ha),b7a (show ((a:Nat):Int).toNat<ch.length from hb)]
     simp only[Bool.or_eq_false_iff,decide_eq_false_iff_not,Bool.not_eq_false',decide_eq_true_eq]
     refine⟨⟨⟨oM,oM⟩,?_⟩,hk⟩
     show ¬0≤ch[a];omega
    rw[c4L (x:=.mk 1 (a:Int) (a2s c l N ch a)) oM rfl rfl,if_neg (by intro hx;exact absurd (hsp.symm.trans hx) (by decide))]
    show visL c l E (a2s c l N ch a) a 0 ch (n+1) s=_
    have key:∀i,i≤(a2s c l N ch a).length→visL c l E (a2s c l N ch a) a 0 ch (n+1) s=visL c l E ((a2s c l N ch a).drop i) a i ch (n+1+(cntNL ((a2s c l N ch a).take i):Nat)) ((a5p c l N ch a i).foldl (fun s t=>(E s t).2) s):=by
     intro i
     induction i with
     |zero=>intro _;rw[List.drop_zero];simp[cntNL,a8q]
     |succ i ihi=>
      intro hi;have hlt:i<(a2s c l N ch a).length:=oM;rw[ihi oM];have h1:=b7y hlt;have h2:=a4k hlt
      have hsub:∀t∈a2h c l N (ch.set a (i:Int)),∀s,(E s t).1=true:=fun t ht=>he t (by
       unfold a5p
       exact List.mem_flatMap.2 ⟨i,List.mem_range.2 hlt,ht⟩)
      have hng:=a5q (k:=(i:Int)) hb hna oM;have hv:=ih (ch.set a (i:Int)) (n+1+(cntNL ((a2s c l N ch a).take i):Nat)) ((a5p c l N ch a i).foldl (fun s t=>(E s t).2) s) (ho.set ha oM oM) oM (by rw[←a2A hlt];omega) hsub;rw[←a2A hlt]at hv
      rw[b5F hlt hv,a4Y,List.foldl_append,h2]
      congr 1
      ·rw[a2A hlt]
       push_cast
       omega
    rw[key _ (Nat.le_refl _),b9b oM,List.take_length];exact congrArg some (Prod.ext (by show n+1+_=n+((_+1:Nat):Int);push_cast;omega) rfl)
theorem d2G:∀(N:Nat) (x:Fm),cntN x≤N→∀ch n s q,visF c l E x ch n s=some q→(∃s t,(E s t).1=true)∨q.2=s:=by
 intro N
 induction N with
 |zero=>intro x hx;cases x;simp[cntN]at hx
 |succ N ih=>
  intro x hx ch n s q hv
  by_cases h0:n+1>4096
  ·rw[d2E h0]at hv;cases hv
  cases hb:a7x x.op x.n x.kids.length with
  |true=>rw[d2F h0 hb]at hv;cases hv
  |false=>
   by_cases h2:x.op=2
   ·rw[c0K h0 hb h2]at hv
    split at hv<;>cases hv
    exact .inr rfl
   by_cases h3:x.op=3
   ·rw[b7i h0 hb h3]at hv
    split at hv
    ·cases hv
    split at hv
    ·rename_i he;exact .inl ⟨_,_,he⟩
    ·cases hv
   by_cases h1:x.op=1
   ·rw[c4L h0 hb h1]at hv
    split at hv
    ·cases hv
    have key:∀(ks:List Fm),(∀k∈ks,cntN k≤N)→∀a i ch n s q,visL c l E ks a i ch n s=some q→(∃s t,(E s t).1=true)∨q.2=s:=by
     intro ks
     induction ks with
     |nil=>intro _ a i ch n s q h;rw[visL]at h;cases h;exact .inr rfl
     |cons k ks ihk=>
      intro hk a i ch n s q h;rw[visL]at h
      cases hq:visF c l E k (ch.set a (i:Int)) n s with
      |none=>rw[hq]at h;cases h
      |some q1=>
       rw[hq]at h
       rcases ih k (hk k (by simp)) _ _ _ _ hq with g1|g1
       ·exact .inl g1
       ·rcases ihk (fun y hy=>hk y (by simp[hy])) _ _ _ _ _ _ h with g2|g2
        ·exact .inl g2
        ·exact .inr (g2.trans g1)
    exact key x.kids (fun k hk=>by have:=a3w (f:=x) hk;omega) _ _ _ _ _ _ hv
   ·rw[d2H h0 hb h2 h3 h1]at hv;cases hv
end
theorem c2h (l:List (List Int)):∀s:Int,0≤s→s+l.length≤1000000→l.foldl (fun s _=>IntKind.i64.wrap (s+1)) s=s+l.length:=by
 induction l with
 |nil=>intro s _ _;simp
 |cons x l ih=>
  intro s h0 h1
  simp only[List.length_cons]at h1
  have e:IntKind.i64.wrap (s+1)=s+1:=by rw[IntKind.wrap_i64];omega
  rw[List.foldl_cons,e,ih (s+1) oM oM]
  simp only[List.length_cons];omega
section
variable {c:List Kind} {own:List Rep} {fts:List Int→List Flt} {v:Vdt}
theorem c0R (hc:a1M c=true) (hv:∀r∈own,a0g r=true) {t:List Int} (h:isF c own t=true):Agr (b3Z own) t:=by
 have h1:=(b0f hc hv t).2 h
 have hg:d0u c own=true:=by
  simp only[d0u,Bool.and_eq_true]
  refine⟨hc,?_⟩;rw[a3r,List.all_eq_true];intro i hi;have hi:=List.mem_range.1 hi
  simp only[List.getElem?_eq_getElem hi]
  exact hv _ (List.getElem_mem hi)
 exact ((b7G hg _ _ (Opn.beg hv) (Nat.le_refl _) t).1 h1).1
theorem c3K (hc:a1M c=true) (hv:∀r∈own,a0g r=true) (h:c7n c own fts v=true):(∀t,isF c own t=true→fts t=[])∧∃t,isF c own t=true:=by
 unfold c7n at h
 cases hq:visF c own (c0t c own fts) v.proof (b3Z own) 0 0 with
 |none=>rw[hq]at h;cases h
 |some q=>
  rw[hq]at h
  simp only[Bool.and_eq_true,decide_eq_true_eq]at h
  refine⟨fun t ht=>?_,?_⟩
  ·have:=b9c (e:=fun t=>isF c own t&&decide (((fts t).length:Int)=0)) (E:=c0t c own fts) (fun s t=>rfl) _ v.proof (Nat.le_refl _) _ _ _ q (Opn.beg hv) hq t (c0R hc hv ht) ht
   simp only[Bool.and_eq_true,decide_eq_true_eq]at this
   exact List.eq_nil_of_length_eq_zero oM
  ·rcases d2G _ v.proof (Nat.le_refl _) _ _ _ _ hq with ⟨s,t,ht⟩|h2
   ·simp only[c0t,Bool.and_eq_true]at ht
    exact⟨t,ht.1⟩
   ·omega
theorem c2Q (hc:a1M c=true) (hv:∀r∈own,a0g r=true) (h:c8N c own v=true):∀t,¬isF c own t=true:=by
 unfold c8N at h
 simp only[Bool.and_eq_true]at h
 obtain⟨q,hq⟩:=Option.isSome_iff_exists.1 h.2;intro t ht;have:=b9c (e:=fun _=>false) (E:=d0Z) (fun s t=>rfl) _ v.proof (Nat.le_refl _) _ _ _ q (Opn.beg hv) hq t (c0R hc hv ht) ht
 cases this
theorem c2d (h:c0P c own fts v=true):isF c own v.hist=true∧fts v.hist≠[]:=by
 unfold c0P at h
 simp only[Bool.and_eq_true,decide_eq_true_eq]at h
 exact⟨h.1.1.1.1.1,fun e=>by have:=h.1.1.1.1.2;rw[e]at this;simp at this⟩
theorem a5O (p:Fm) (eds:List (List Int)) (fts:List Int→List Flt) :
  (eds=[]∧b9u p eds fts=⟨3,p,[],[]⟩)∨(eds≠[]∧(∀t∈eds,fts t=[])∧b9u p eds fts=⟨1,p,[],[]⟩)∨∃t∈eds,fts t≠[]∧b9u p eds fts=⟨2,d0U,t,fts t⟩:=by
 unfold b9u
 cases h:eds.find? fun t=>!(fts t).isEmpty with
 |none=>
  have h1:=List.find?_eq_none.1 h
  cases eds with
  |nil=>exact .inl ⟨rfl,rfl⟩
  |cons x l=>exact .inr (.inl ⟨by simp,fun t ht=>by have:=h1 t ht;simpa using this,rfl⟩)
 |some t=>
  have h1:=List.find?_some h;exact .inr (.inr ⟨t,List.mem_of_find?_eq_some h,by simpa using h1,rfl⟩)
variable {f:Fm} {b:Bok} {l:List Rep} {R:Nat→Nat} {vn:ByteArray} {day:Int}
theorem b2G (h0:(runL f c [] 0).2.2=0) (hva:(l.any fun r=>!a0g r)=false) (h:accF f c b l (a1c l R vn) vn day v=true):v.kind=(decR f c b l (a1c l R vn) vn day).kind:=by
 have hc:=b0W h0;have hv:=a5b (a4R hva) (R:=R) (p:=vn);rw[b2F h0 hva]at h
 rw[b0e h0 hva];unfold b4I at h
 have hm:=b0f hc hv
 by_cases h1:v.kind=1
 ·rw[if_pos h1]at h
  obtain⟨g1,t,g2⟩:=c3K hc hv h;rw[h1]
  rcases a5O (a2X c (a1c l R vn)) (a2g c (a1c l R vn)) (ftsF f c b (a1c l R vn) vn day) with ⟨e,_⟩|⟨_,_,e⟩|⟨u,hu,hn,_⟩
  ·have:=(hm t).2 g2;rw[e]at this;cases this
  ·rw[e]
  ·exact absurd (g1 u ((hm u).1 hu)) hn
 rw[if_neg h1]at h
 by_cases h3:v.kind=3
 ·rw[if_pos h3]at h
  have g:=c2Q hc hv h;rw[h3]
  rcases a5O (a2X c (a1c l R vn)) (a2g c (a1c l R vn)) (ftsF f c b (a1c l R vn) vn day) with ⟨_,e⟩|⟨hn,_,_⟩|⟨u,hu,_,_⟩
  ·rw[e]
  ·obtain⟨t,r,e⟩:=List.exists_cons_of_ne_nil hn;exact absurd ((hm t).1 (by rw[e];simp)) (g t)
  ·exact absurd ((hm u).1 hu) (g u)
 rw[if_neg h3]at h
 by_cases h2:v.kind=2
 ·rw[if_pos h2]at h
  obtain⟨g1,g2⟩:=c2d h;rw[h2]
  rcases a5O (a2X c (a1c l R vn)) (a2g c (a1c l R vn)) (ftsF f c b (a1c l R vn) vn day) with ⟨e,_⟩|⟨_,ha,_⟩|⟨u,hu,_,e⟩
  ·have:=(hm _).2 g1;rw[e]at this;cases this
  ·exact absurd (ha _ ((hm _).2 g1)) g2
  ·rw[e]
 ·rw[if_neg h2]at h;cases h
theorem b5K (h0:(runL f c [] 0).2.2=0) (hva:(l.any fun r=>!a0g r)=false) (hw:a4b l≤2000):accF f c b l (a1c l R vn) vn day (decR f c b l (a1c l R vn) vn day)=true:=by
 have hc:=b0W h0;have hv:=a5b (a4R hva) (R:=R) (p:=vn);rw[b2F h0 hva,b0e h0 hva];have hm:=b0f hc hv;have h96:cntN (a2X c (a1c l R vn))≤4096:=by have h1:=b5y (c:=c) hv;have h2:=a9t (R:=R) (p:=vn) (a4R hva);omega
 have hel:(a2g c (a1c l R vn)).length≤2000:=by have h1:=b4r (c:=c) hv;have h2:=a9t (R:=R) (p:=vn) (a4R hva);omega
 unfold b4I
 rcases a5O (a2X c (a1c l R vn)) (a2g c (a1c l R vn)) (ftsF f c b (a1c l R vn) vn day) with ⟨he,e⟩|⟨hn,ha,e⟩|⟨u,hu,hf,e⟩
 ·rw[e]
  show c8N c _ ⟨3,a2X c (a1c l R vn),[],[]⟩=true
  have hvis:=b9d (E:=d0Z) (c:=c) hv _ _ 0 () (Opn.beg hv) (Nat.le_refl _) (by have h9:(cntN (a2d c (a1c l R vn) (a9d ((a1c l R vn).map b3R)) ((a1c l R vn).map b3R)):Nat)≤4096:=h96;omega) (fun t ht=>by
   have:t∈a2g c (a1c l R vn):=ht
   rw[he]at this;cases this)
  unfold c8N
  show (decide (((0:Nat):Int)+((0:Nat):Int)=0)&&(visF c _ d0Z (a2X c (a1c l R vn)) (b3Z (a1c l R vn)) 0 ()).isSome)=true
  have hvis2:visF c (a1c l R vn) d0Z (a2X c (a1c l R vn)) (b3Z (a1c l R vn)) 0 ()=_:=hvis;rw[hvis2];rfl
 ·rw[e]
  show c7n c _ _ ⟨1,a2X c (a1c l R vn),[],[]⟩=true
  have hvis:=b9d (E:=c0t c (a1c l R vn) (ftsF f c b (a1c l R vn) vn day)) (c:=c) hv _ _ 0 0 (Opn.beg hv) (Nat.le_refl _) (by have h9:(cntN (a2d c (a1c l R vn) (a9d ((a1c l R vn).map b3R)) ((a1c l R vn).map b3R)):Nat)≤4096:=h96;omega) (fun t ht s=>by
   have h1:t∈a2g c (a1c l R vn):=ht
   simp only[c0t,(hm t).1 h1,ha t h1,List.length_nil];rfl)
  have hvis2:visF c (a1c l R vn) (c0t c (a1c l R vn) (ftsF f c b (a1c l R vn) vn day)) (a2X c (a1c l R vn)) (b3Z (a1c l R vn)) 0 0=some (0+((cntN (a2X c (a1c l R vn)):Nat):Int),(a2g c (a1c l R vn)).foldl (fun s _=>IntKind.i64.wrap (s+1)) 0):=hvis;unfold c7n
  show (match visF c (a1c l R vn) (c0t c (a1c l R vn) (ftsF f c b (a1c l R vn) vn day)) (a2X c (a1c l R vn)) (b3Z (a1c l R vn)) 0 0 with|none=>false|some q=>decide (0<q.2)&&decide (((0:Nat):Int)+((0:Nat):Int)=0))=true
  rw[hvis2,c2h _ 0 (Int.le_refl _) oM];have hpos:0<(a2g c (a1c l R vn)).length:=List.length_pos_iff.2 hn
  simp only[Bool.and_eq_true,decide_eq_true_eq]
  exact⟨oM,oM⟩
 ·rw[e]
  show c0P c _ _ ⟨2,d0U,u,ftsF f c b (a1c l R vn) vn day u⟩=true
  have hpos:0<(ftsF f c b (a1c l R vn) vn day u).length:=List.length_pos_iff.2 hf;unfold c0P
  simp only[Bool.and_eq_true,decide_eq_true_eq]
  exact⟨⟨⟨⟨⟨(hm u).1 hu,oM⟩,trivial⟩,rfl⟩,rfl⟩,rfl⟩
end
end Go.Sx
set_option linter.all false
namespace Go.Sx
open Go
structure FewBk (b:Bok):Prop where
 rules:b.rules.length≤5
 subs:b.subs.length≤5
 duties:b.duties.length≤5
 conc:b.conc.length≤5
 recalls:b.recalls.length≤5
 holds:b.holds.length≤5
def cfC:List Kind:=[⟨b0B,false,[]⟩,⟨nCoach,true,[⟨b0B,[b0B],1⟩]⟩]
def cfL:List Rep:=[⟨[bxMade],false⟩,⟨[a9V 1 8],false⟩,⟨[a9V 2 5],true⟩]
def cfR (k:Int):Rul:=⟨nR,nCoach,.mk 5 sKm a0L k 0 []⟩
theorem a6G:SmC cfC:=c1Y (by decide +kernel)
theorem c1o:a2g cfC cfL=[[0,0,0],[0,0,1]]:=by decide +kernel
theorem a8h:(runL bxF cfC [] 0).2.2=0:=by rw[c3S (r:=([],-1,0)) (by decide +kernel)]
theorem b1J:(cfL.any fun r=>!a0g r)=false:=by decide +kernel
theorem d3s:ftsF bxF cfC (fgB [cfR 13] []) cfL nV1 5 [0,0,0]=[]:=c2U (by decide +kernel) (by decide +kernel)
theorem d3t:ftsF bxF cfC (fgB [cfR 13] []) cfL nV1 5 [0,0,1]=[]:=c2U (by decide +kernel) (by decide +kernel)
theorem d3r:ftsF bxF cfC (fgB [cfR 10] []) cfL nV1 5 [0,0,0]=[⟨1,nV1,nR⟩]:=c2U (by decide +kernel) (by decide +kernel)
theorem d3u:(decR bxF cfC (fgB [cfR 13] []) cfL cfL nV1 5).kind=1:=b7F a8h b1J (by rw[c1o];simp[List.find?,d3s,d3t])
theorem d3v:(decR bxF cfC (fgB [cfR 10] []) cfL cfL nV1 5).kind=2:=b7F a8h b1J (by rw[c1o];simp[List.find?,d3r])
theorem c1n {R:Nat→Nat} (hR:Rts cfL R):a1c cfL R nV1=cfL:=by
 have h1:R 1=R 0:=hR.share (l:=cfL) (i:=1) (k:=0) (z:=nV1) (by decide) (by decide) (a5Z.1 (by decide +kernel)) (a5Z.1 (by decide +kernel));have h2:R 2=R 0:=hR.share (l:=cfL) (i:=2) (k:=0) (z:=nV1) (by decide) (by decide) (a5Z.1 (by decide +kernel)) (a5Z.1 (by decide +kernel));refine c9k hR (fun i hi=>?_) (k:=0) (by decide) (a5Z.1 (by decide +kernel))
 match i,hi with
 |0,_=>rfl
 |1,_=>exact h1
 |2,_=>exact h2
 |n+3,hi=>exact absurd hi (by show ¬n+3<3;omega)
theorem b1p:∀r∈cfL,∀e∈r.options,SmE e:=by
 intro r hr e he
 simp only[cfL,List.mem_cons,List.not_mem_nil,or_false]at hr
 rcases hr with rfl|rfl|rfl<;>simp only[List.mem_cons,List.not_mem_nil,or_false]at he
 all_goals subst he;exact⟨by decide,by decide,by decide,by decide,by decide,by decide⟩
theorem a5M:a4b cfL≤2000:=by decide +kernel
theorem d3p (k:Int) (h:I64 k):b2D (cfR k):=⟨show nR.size≤9223372036854775807 by decide,show nCoach.size≤9223372036854775807 by decide,.mk ⟨by decide,by decide⟩ h ⟨by decide,by decide⟩ (by decide) (by decide) fun _ h=>by cases h⟩
theorem a6F (k:Int) (h:I64 k):OkBok (fgB [cfR k] []):=d3U (fun r hr=>by rw[List.mem_singleton.1 hr];exact d3p k h) (show 1≤100 by decide)
section
variable {R:Nat→Nat} (hR:Rts cfL R)
include hR
theorem c9A:(decR bxF cfC (fgB [cfR 13] []) cfL (a1c cfL R nV1) nV1 5).kind=1:=by rw[c1n hR];exact d3u
theorem c9B:(decR bxF cfC (fgB [cfR 10] []) cfL (a1c cfL R nV1) nV1 5).kind=2:=by rw[c1n hR];exact d3v
theorem d6A:accF bxF cfC (fgB [cfR 13] []) cfL (a1c cfL R nV1) nV1 5 (decR bxF cfC (fgB [cfR 13] []) cfL (a1c cfL R nV1) nV1 5)=true:=b5K a8h b1J a5M
theorem d6B:accF bxF cfC (fgB [cfR 10] []) cfL (a1c cfL R nV1) nV1 5 (decR bxF cfC (fgB [cfR 10] []) cfL (a1c cfL R nV1) nV1 5)=true:=b5K a8h b1J a5M
theorem d6C:accF bxF cfC (fgB [cfR 10] []) cfL (a1c cfL R nV1) nV1 5 (decR bxF cfC (fgB [cfR 13] []) cfL (a1c cfL R nV1) nV1 5)=false:=by
 cases h:accF bxF cfC (fgB [cfR 10] []) cfL (a1c cfL R nV1) nV1 5 (decR bxF cfC (fgB [cfR 13] []) cfL (a1c cfL R nV1) nV1 5) with
 |false=>rfl
 |true=>have h1:=b2G a8h b1J h;rw[c9A hR,c9B hR]at h1;exact absurd h1 (by decide)
theorem d6D:accF bxF cfC (fgB [cfR 13] []) cfL (a1c cfL R nV1) nV1 5 (decR bxF cfC (fgB [cfR 10] []) cfL (a1c cfL R nV1) nV1 5)=false:=by
 cases h:accF bxF cfC (fgB [cfR 13] []) cfL (a1c cfL R nV1) nV1 5 (decR bxF cfC (fgB [cfR 10] []) cfL (a1c cfL R nV1) nV1 5) with
 |false=>rfl
 |true=>have h1:=b2G a8h b1J h;rw[c9A hR,c9B hR]at h1;exact absurd h1 (by decide)
end
theorem c9W {f:Fm} {c:List Kind} {b:Bok} {l:List Rep} {R:Nat→Nat} {vn:ByteArray} {day:Int} (hw:a4b l≤2000) :
  ((decR f c b l (a1c l R vn) vn day).kind=4→accF f c b l (a1c l R vn) vn day (decR f c b l (a1c l R vn) vn day)=false) ∧
  (¬(decR f c b l (a1c l R vn) vn day).kind=4→accF f c b l (a1c l R vn) vn day (decR f c b l (a1c l R vn) vn day)=true∧∀v,accF f c b l (a1c l R vn) vn day v=true→v.kind=(decR f c b l (a1c l R vn) vn day).kind):=by
 cases h:(!decide ((runL f c [] 0).2.2=0)||l.any fun r=>!a0g r) with
 |true=>exact⟨fun _=>b2E h,fun hn=>absurd (by rw[b2Q h];rfl) hn⟩
 |false=>
  simp only[Bool.or_eq_false_iff,Bool.not_eq_false',decide_eq_true_eq]at h
  refine⟨fun hk=>?_,fun _=>⟨b5K h.1 h.2 hw,fun v hv=>b2G h.1 h.2 hv⟩⟩;rw[b0e h.1 h.2]at hk
  rcases a5O (a2X c (a1c l R vn)) (a2g c (a1c l R vn)) (ftsF f c b (a1c l R vn) vn day) with ⟨_,e⟩|⟨_,_,e⟩|⟨u,_,_,e⟩<;>rw[e]at hk
  ·exact absurd hk (show ¬(3:Int)=4 by decide)
  ·exact absurd hk (show ¬(1:Int)=4 by decide)
  ·exact absurd hk (show ¬(2:Int)=4 by decide)
theorem d8k {b:Bok} (h:OkBk b) (g:FewBk b):OkBok b:=⟨h.rules,h.recalls,h.duties,by have:=g.rules;omega,by have:=g.recalls;omega,by have:=g.duties;omega,by have:=g.holds;omega⟩
end Go.Sx
namespace Go.Proofs.YtgmkjpafapgccaaGreat
open Go Go.Sx Tryz
set_option linter.all false
set_option maxRecDepth 20000
set_option maxHeartbeats 4000000
instance:Has (a1h prog 181 0) (0,false,1):=hk
instance:Has (a1h prog 181 1) (1,false,1):=hk
instance:Has (a1h prog 181 2) (2,false,1):=hk
theorem a7L (I:IMap) (v:Value) (l:List ByteArray) (hv:RdS I v l) :
    FnE prog 139 #[v] I (fun u=>∃b:Bool,u = .bool b):=by
 obtain⟨A,c0,rfl,hA,hc,hm⟩:=hv;refine enter func139 call139 rfl ntmps139 rfl fun w0=>?_;refine go 12 ?_
 refine a0x (α:=Nat) 0 (fun i=>I)
  (fun i=>[(0,.slice A l.length c0),(3,.int .i64 ((i:Nat):Int))])
  (fun i=>[])
  (fun i=>i≤l.length)
  (fun i=>l.length-i) (Nat.zero_le _) rfl sb rfl ?_
 intro i hi;refine gC 9 (fun h7 p7=>?_) fun h7 p7=>?_
 ·have hlt:i<l.length:=oM;refine go 8 ?_;obtain⟨b12,o12,w12,e12,c12,r12⟩:=RdA.at_ hA (i:=i) oM;obtain rfl:=r12;refine gC 6 (fun h15 p15=>?_) fun h15 p15=>?_
  ·refine go 12 ?_;exact q_e ⟨_,rfl⟩
  ·refine go 9 ?_;exact a0w (i+1) oM oM rfl sb rfl
 ·refine go 12 ?_;exact q_e ⟨_,rfl⟩
theorem b8E (I:IMap) (v:Value) (l:List Rul) (hv:RdS I v l) (m:Int) :
    FnE prog 138 #[v,.int .i64 (m)] I (fun u=>∃b:Bool,u = .bool b∧(b=true→(l.length:Int)≤m)):=by
 obtain⟨A,c0,rfl,hA,hc,hm⟩:=hv;refine enter func138 call138 rfl ntmps138 rfl fun w0=>?_;refine go 12 ?_
 refine a0x (α:=Nat) 0 (fun i=>I)
  (fun i=>[(0,.slice A l.length c0),(1,.int .i64 (m)),(5,.int .i64 ((i:Nat):Int))])
  (fun i=>[])
  (fun i=>i≤l.length)
  (fun i=>l.length-i) (Nat.zero_le _) rfl sb rfl ?_
 intro i hi;refine gS 8 10 (fun h10 p10=>?_) fun h10 p10=>?_
 ·refine gC 7 (fun h15 p15=>?_) fun h15 p15=>?_
  ·have hlt:i<l.length:=oM;refine go 8 ?_;obtain⟨b20,o20,w20,e20,c20,r20⟩:=RdA.at_ hA (i:=i) oM;obtain⟨s20,rfl,hs20⟩:=r20;refine go 3 ?_;refine a0W (c7j _ (l[i]'oM) s20 hs20) rfl rfl fun v22 q22=>?_;obtain⟨b22,rfl⟩:=q22;refine gC 3 (fun h23 p23=>?_) fun h23 p23=>?_
   ·refine go 12 ?_;exact q_e ⟨false,rfl,fun h=>by cases h⟩
   ·refine go 9 ?_;exact a0w (i+1) oM oM rfl sb rfl
  ·refine go 16 ?_;exact q_e ⟨_,rfl,fun h=>of_decide_eq_true h⟩
 ·refine go 24 ?_;exact q_e ⟨_,rfl,fun h=>of_decide_eq_true h⟩
theorem c7k (I:IMap) (v0 v1 v2 v3 v4 v5:Value) (b:Bok) (hb:BokRd I v0 v1 v2 v3 v4 v5 b) :
    FnI prog 63 #[.agg #[v0,v1,v2,v3,v4,v5]] I (fun u J=>∃e:Bool,u = .bool e∧(e=true→FewBk b)):=by
 have hb0:=hb.r0;have hb4:=hb.r4;obtain⟨A0,c0,rfl,hA0,_,_⟩:=id hb.r0;obtain⟨A1,c1,rfl,hA1,_,_⟩:=id hb.r1;obtain⟨A2,c2,rfl,hA2,_,_⟩:=id hb.r2;obtain⟨A3,c3,rfl,hA3,_,_⟩:=id hb.r3;obtain⟨A4,c4,rfl,hA4,_,_⟩:=id hb.r4;obtain⟨A5,c5,rfl,hA5,_,_⟩:=id hb.r5;refine enter func63 call63 rfl ntmps63 rfl fun w0=>?_;refine go 4 fun g1=>?_
 refine go 6 ?_;refine a0z fun Ig1 jg1 cg1=>?_
 try have hA1:=hA1.le jg1
 try have hA2:=hA2.le jg1
 try have hA3:=hA3.le jg1
 try have hA5:=hA5.le jg1
 try have cg1:=cg1.le jg1
 try have hb0:=hb0.le jg1
 try have hb4:=hb4.le jg1
 refine go 1 ?_;refine o_v rfl (a0v he rfl (cg1 1 _ rfl)) ?_;refine gS 3 11 (fun h11 p11=>?_) fun h11 p11=>?_
 ·refine go 40 ?_;exact q_i ⟨false,rfl,fun h=>by cases h⟩
 ·refine go 1 ?_;refine a0A (a0n rfl rfl h11 (a0q rfl (a0v he rfl (cg1 2 _ rfl)) ?_));refine gS 4 17 (fun h17 p17=>?_) fun h17 p17=>?_
  ·refine go 34 ?_;exact q_i ⟨false,rfl,fun h=>by cases h⟩
  ·refine go 1 ?_;refine a0A (a0n rfl rfl h17 (a0q rfl (a0v he rfl (cg1 3 _ rfl)) ?_));refine gS 4 23 (fun h23 p23=>?_) fun h23 p23=>?_
   ·refine go 28 ?_;exact q_i ⟨false,rfl,fun h=>by cases h⟩
   ·refine go 1 ?_;refine a0A (a0n rfl rfl h23 (a0q rfl (a0v he rfl (cg1 5 _ rfl)) ?_));refine gS 4 29 (fun h29 p29=>?_) fun h29 p29=>?_
    ·refine go 22 ?_;exact q_i ⟨false,rfl,fun h=>by cases h⟩
    ·refine go 1 ?_;refine a0A (a0n rfl rfl h29 (a0q rfl (a0v he rfl (cg1 0 _ rfl)) ?_));refine go 1 ?_;refine a0n rfl rfl h29 (a0W (b8E _ _ _ hb0 5) rfl rfl (fun v32 q32=>?_));obtain⟨b32,rfl,h32a⟩:=q32;refine gS 3 35 (fun h35 p35=>?_) fun h35 p35=>?_
     ·refine go 16 ?_;exact q_i ⟨false,rfl,fun h=>by cases h⟩
     ·refine go 1 ?_;refine a0A (a0n rfl rfl h35 (a0q rfl (a0v he rfl (cg1 4 _ rfl)) ?_));refine go 1 ?_;refine a0n rfl rfl h35 (a0W (b8E _ _ _ hb4 5) rfl rfl (fun v38 q38=>?_));obtain⟨b38,rfl,h38a⟩:=q38;refine gC 4 (fun h40 p40=>?_) fun h40 p40=>?_
      ·refine go 8 ?_;exact q_i ⟨false,rfl,fun h=>by cases h⟩
      ·have hfb:FewBk b:=⟨by have:=h32a (by simpa using h35);omega,by simp at h11;omega,by simp at h17;omega,by simp at h23;omega,by have:=h38a (by simpa using h40);omega,by simp at h29;omega⟩;refine go 9 ?_
       refine a0H ((0:Nat)) (Ig1) (fun i J0=>J0)
        (fun i J0=>[(1,.pointer (some ⟨g1,0,none⟩)),(3,.int .i64 ((i:Nat):Int))])
        (fun i J0=>[])
        (fun i J0=>i≤b.subs.length∧ILe Ig1 J0)
        (fun i J0=>b.subs.length-i) ⟨Nat.zero_le _,ILe.refl _⟩ rfl sb rfl ?_
       intro i J0 ⟨hi,hJ0⟩;have hA1:=hA1.le hJ0;have hA2:=hA2.le hJ0;have hA3:=hA3.le hJ0;have hA5:=hA5.le hJ0;have cg1:=cg1.le hJ0;refine go 5 ?_;refine o_v rfl (a0v he rfl (cg1 1 _ rfl)) ?_;refine gC 4 (fun h45 p45=>?_) fun h45 p45=>?_
       ·have hlt:i<b.subs.length:=oM;refine go 5 ?_;refine a1G fun hE6 hf6=>?_;refine go 1 ?_;refine dG 0 1 ?_;refine a0E 1 rfl rfl (by kernel_rfl) rfl .slnil rfl (a0v he rfl (cg1 1 _ rfl)) ?_;refine dG 2 1 ?_;obtain⟨b51,o51,w51,e51,c51,r51⟩:=RdA.at_ hA1 (i:=i) hlt;obtain rfl:=r51;refine dG 3 4 ?_;refine a0E 7 rfl rfl (by kernel_rfl) rfl .slnil rfl (a0v he rfl (cg1 1 _ rfl)) ?_;refine dG 8 1 ?_;obtain⟨b57,o57,w57,e57,c57,r57⟩:=RdA.at_ hA1 (i:=i) hlt;obtain rfl:=r57;refine dG 9 4 ?_;refine a0E 13 rfl rfl (by kernel_rfl) rfl .slnil rfl (a0v he rfl (cg1 1 _ rfl)) ?_;refine dG 14 1 ?_;obtain⟨b63,o63,w63,e63,c63,r63⟩:=RdA.at_ hA1 (i:=i) hlt;obtain rfl:=r63;refine dG 15 4 ?_;refine a0E 19 rfl rfl (by kernel_rfl) rfl .slnil rfl (a0v he rfl (cg1 1 _ rfl)) ?_;refine dG 20 1 ?_;obtain⟨b69,o69,w69,e69,c69,r69⟩:=RdA.at_ hA1 (i:=i) hlt;obtain rfl:=r69;refine dH 21 3 ?_;refine go 1 fun v72=>?_
        refine a0k (l:=[b.subs[i].kind,b.subs[i].slot,b.subs[i].other,b.subs[i].twin]) rfl rfl ((a6i [b.subs[i].kind,b.subs[i].slot,b.subs[i].other,b.subs[i].twin])) fun I72 j72 R72=>?_
        try have hA1:=hA1.le j72
        try have hA2:=hA2.le j72
        try have hA3:=hA3.le j72
        try have hA5:=hA5.le j72
        try have cg1:=cg1.le j72
        try have hb0:=hb0.le j72
        try have hb4:=hb4.le j72
        refine dH 25 0 ?_;refine a0W (a7L _ _ _ R72) rfl rfl fun v73 q73=>?_;obtain⟨b73,rfl⟩:=q73;refine dG 26 1 ?_;refine gC 2 (fun h74 p74=>?_) fun h74 p74=>?_
        ·refine go 12 ?_;exact q_i ⟨false,rfl,fun h=>by cases h⟩
        ·refine go 9 ?_;exact a0r (i+1) (I72) ⟨oM,hJ0.trans j72⟩ oM rfl sb rfl
       ·refine go 12 ?_
        refine a0H ((0:Nat)) (J0) (fun i J1=>J1)
         (fun i J1=>[(1,.pointer (some ⟨g1,0,none⟩)),(4,.int .i64 ((i:Nat):Int))])
         (fun i J1=>[])
         (fun i J1=>i≤b.duties.length∧ILe J0 J1)
         (fun i J1=>b.duties.length-i) ⟨Nat.zero_le _,ILe.refl _⟩ rfl sb rfl ?_
        intro i J1 ⟨hi,hJ1⟩;have hA1:=hA1.le hJ1;have hA2:=hA2.le hJ1;have hA3:=hA3.le hJ1;have hA5:=hA5.le hJ1;have cg1:=cg1.le hJ1;refine go 5 ?_;refine o_v rfl (a0v he rfl (cg1 2 _ rfl)) ?_;refine gC 4 (fun h79 p79=>?_) fun h79 p79=>?_
        ·have hlt:i<b.duties.length:=oM;refine go 5 ?_;refine a1G fun hE11 hf11=>?_;refine go 1 ?_;refine dG 0 1 ?_;refine a0E 1 rfl rfl (by kernel_rfl) rfl .slnil rfl (a0v he rfl (cg1 2 _ rfl)) ?_;refine dG 2 1 ?_;obtain⟨b85,o85,w85,e85,c85,r85⟩:=RdA.at_ hA2 (i:=i) hlt;obtain rfl:=r85;refine dG 3 4 ?_;refine a0E 7 rfl rfl (by kernel_rfl) rfl .slnil rfl (a0v he rfl (cg1 2 _ rfl)) ?_;refine dG 8 1 ?_;obtain⟨b91,o91,w91,e91,c91,r91⟩:=RdA.at_ hA2 (i:=i) hlt;obtain rfl:=r91;refine dG 9 4 ?_;refine a0E 13 rfl rfl (by kernel_rfl) rfl .slnil rfl (a0v he rfl (cg1 2 _ rfl)) ?_;refine dG 14 1 ?_;obtain⟨b97,o97,w97,e97,c97,r97⟩:=RdA.at_ hA2 (i:=i) hlt;obtain rfl:=r97;refine dH 15 3 ?_;refine go 1 fun v100=>?_
         refine a0k (l:=[b.duties[i].name,b.duties[i].kind,b.duties[i].key]) rfl rfl ((a6i [b.duties[i].name,b.duties[i].kind,b.duties[i].key])) fun I100 j100 R100=>?_
         try have hA1:=hA1.le j100
         try have hA2:=hA2.le j100
         try have hA3:=hA3.le j100
         try have hA5:=hA5.le j100
         try have cg1:=cg1.le j100
         try have hb0:=hb0.le j100
         try have hb4:=hb4.le j100
         refine dH 19 0 ?_;refine a0W (a7L _ _ _ R100) rfl rfl fun v101 q101=>?_;obtain⟨b101,rfl⟩:=q101;refine dG 20 1 ?_;refine gC 2 (fun h102 p102=>?_) fun h102 p102=>?_
         ·refine go 12 ?_;exact q_i ⟨false,rfl,fun h=>by cases h⟩
         ·refine go 9 ?_;exact a0r (i+1) (I100) ⟨oM,hJ1.trans j100⟩ oM rfl sb rfl
        ·refine go 12 ?_
         refine a0H ((0:Nat)) (J1) (fun i J2=>J2)
          (fun i J2=>[(1,.pointer (some ⟨g1,0,none⟩)),(5,.int .i64 ((i:Nat):Int))])
          (fun i J2=>[])
          (fun i J2=>i≤b.conc.length∧ILe J1 J2)
          (fun i J2=>b.conc.length-i) ⟨Nat.zero_le _,ILe.refl _⟩ rfl sb rfl ?_
         intro i J2 ⟨hi,hJ2⟩;have hA1:=hA1.le hJ2;have hA2:=hA2.le hJ2;have hA3:=hA3.le hJ2;have hA5:=hA5.le hJ2;have cg1:=cg1.le hJ2;refine go 5 ?_;refine o_v rfl (a0v he rfl (cg1 3 _ rfl)) ?_;refine gC 4 (fun h107 p107=>?_) fun h107 p107=>?_
         ·have hlt:i<b.conc.length:=oM;refine go 5 ?_;refine a1G fun hE16 hf16=>?_;refine go 1 ?_;refine dG 0 1 ?_;refine a0E 1 rfl rfl (by kernel_rfl) rfl .slnil rfl (a0v he rfl (cg1 3 _ rfl)) ?_;refine dG 2 1 ?_;obtain⟨b113,o113,w113,e113,c113,r113⟩:=RdA.at_ hA3 (i:=i) hlt;obtain rfl:=r113;refine dG 3 4 ?_;refine a0E 7 rfl rfl (by kernel_rfl) rfl .slnil rfl (a0v he rfl (cg1 3 _ rfl)) ?_;refine dG 8 1 ?_;obtain⟨b119,o119,w119,e119,c119,r119⟩:=RdA.at_ hA3 (i:=i) hlt;obtain rfl:=r119;refine dH 9 3 ?_;refine go 1 fun v122=>?_
          refine a0k (l:=[b.conc[i].part,b.conc[i].rule]) rfl rfl ((a6i [b.conc[i].part,b.conc[i].rule])) fun I122 j122 R122=>?_
          try have hA1:=hA1.le j122
          try have hA2:=hA2.le j122
          try have hA3:=hA3.le j122
          try have hA5:=hA5.le j122
          try have cg1:=cg1.le j122
          try have hb0:=hb0.le j122
          try have hb4:=hb4.le j122
          refine dH 13 0 ?_;refine a0W (a7L _ _ _ R122) rfl rfl fun v123 q123=>?_;obtain⟨b123,rfl⟩:=q123;refine dG 14 1 ?_;refine gC 2 (fun h124 p124=>?_) fun h124 p124=>?_
          ·refine go 12 ?_;exact q_i ⟨false,rfl,fun h=>by cases h⟩
          ·refine go 9 ?_;exact a0r (i+1) (I122) ⟨oM,hJ2.trans j122⟩ oM rfl sb rfl
         ·refine go 12 ?_
          refine a0H ((0:Nat)) (J2) (fun i J3=>J3)
           (fun i J3=>[(1,.pointer (some ⟨g1,0,none⟩)),(6,.int .i64 ((i:Nat):Int))])
           (fun i J3=>[])
           (fun i J3=>i≤b.holds.length∧ILe J2 J3)
           (fun i J3=>b.holds.length-i) ⟨Nat.zero_le _,ILe.refl _⟩ rfl sb rfl ?_
          intro i J3 ⟨hi,hJ3⟩;have hA1:=hA1.le hJ3;have hA2:=hA2.le hJ3;have hA3:=hA3.le hJ3;have hA5:=hA5.le hJ3;have cg1:=cg1.le hJ3;refine go 5 ?_;refine o_v rfl (a0v he rfl (cg1 5 _ rfl)) ?_;refine gC 4 (fun h129 p129=>?_) fun h129 p129=>?_
          ·have hlt:i<b.holds.length:=oM;have cg1o:=cg1;have hA5o:=hA5;refine go 5 ?_;refine a1G fun hE21 hf21=>?_;refine go 1 ?_;refine dG 0 1 ?_;refine a0E 1 rfl rfl (by kernel_rfl) rfl .slnil rfl (a0v he rfl (cg1 5 _ rfl)) ?_;refine dG 2 1 ?_;obtain⟨b135,o135,w135,e135,c135,r135⟩:=RdA.at_ hA5 (i:=i) hlt;obtain⟨_,_,rfl,⟨MA,mc,rfl,_,_,_⟩,⟨MB,md,rfl,_,_,_⟩⟩:=r135;refine dG 3 4 ?_;refine a0E 7 rfl rfl (by kernel_rfl) rfl .slnil rfl (a0v he rfl (cg1 5 _ rfl)) ?_;refine dG 8 1 ?_;obtain⟨b141,o141,w141,e141,c141,r141⟩:=RdA.at_ hA5 (i:=i) hlt;obtain⟨_,_,rfl,⟨MA,mc,rfl,_,_,_⟩,⟨MB,md,rfl,_,_,_⟩⟩:=r141;refine dH 9 3 ?_;refine go 1 fun v144=>?_
           refine a0k (l:=[b.holds[i].id,b.holds[i].vehicle]) rfl rfl ((a6i [b.holds[i].id,b.holds[i].vehicle])) fun I144 j144 R144=>?_
           try have hA1:=hA1.le j144
           try have hA2:=hA2.le j144
           try have hA3:=hA3.le j144
           try have hA5:=hA5.le j144
           try have cg1:=cg1.le j144
           try have hb0:=hb0.le j144
           try have hb4:=hb4.le j144
           refine dH 13 0 ?_;refine a0W (a7L _ _ _ R144) rfl rfl fun v145 q145=>?_;obtain⟨b145,rfl⟩:=q145;refine dG 14 2 ?_;refine gS 0 147 (fun h147 p147=>?_) fun h147 p147=>?_
           ·refine dG 16 19 ?_;refine go 15 ?_;exact q_i ⟨false,rfl,fun h=>by cases h⟩
           ·refine dG 16 1 ?_;refine d_t 17 rfl rfl (by kernel_rfl) rfl (fun _ m=>m.keepsI .slnil (j144) hE21 hf21) (a1u rfl rfl h147 (a0v he rfl (cg1o 5 _ rfl))) ?_;refine dG 18 1 ?_;obtain⟨b151,o151,w151,e151,c151,r151⟩:=RdA.at_ hA5o (i:=i) hlt;obtain⟨_,_,rfl,⟨MA,mc,rfl,_,_,_⟩,⟨MB,md,rfl,_,_,_⟩⟩:=r151;refine dG 19 7 ?_;refine gS 0 157 (fun h157 p157=>?_) fun h157 p157=>?_
            ·refine dG 26 9 ?_;refine go 15 ?_;exact q_i ⟨false,rfl,fun h=>by cases h⟩
            ·refine dG 26 1 ?_;refine d_t 27 rfl rfl (by kernel_rfl) rfl (fun _ m=>m.keepsI .slnil (j144) hE21 hf21) (a1u rfl rfl h157 (a0v he rfl (cg1o 5 _ rfl))) ?_;refine dG 28 1 ?_;obtain⟨b161,o161,w161,e161,c161,r161⟩:=RdA.at_ hA5o (i:=i) hlt;obtain⟨_,_,rfl,⟨MA,mc,rfl,_,_,_⟩,⟨MB,md,rfl,_,_,_⟩⟩:=r161;refine dG 29 6 ?_;refine gC 2 (fun h166 p166=>?_) fun h166 p166=>?_
             ·refine go 12 ?_;exact q_i ⟨false,rfl,fun h=>by cases h⟩
             ·refine go 9 ?_;exact a0r (i+1) (I144) ⟨oM,hJ3.trans j144⟩ oM rfl sb rfl
          ·refine go 12 ?_;exact q_i ⟨true,rfl,fun _=>hfb⟩
theorem c7l (I:IMap) (vc:Value) (c:List Kind) (hvc:RdS I vc c) (f:Fm) (sf:Value) (hfm:FmRd I [ci f.op,ci f.n,sf] f) (v0 v1 v2 v3 v4 v5:Value) (b:Bok) (hb:BokRd I v0 v1 v2 v3 v4 v5 b) (v:Value) (l:List Rep) (hv:RdS I v l) (n:Int) (hn:n≤4096) :
    FnI prog 90 #[.agg #[vc,ci f.op,ci f.n,sf],.agg #[v0,v1,v2,v3,v4,v5],v,.int .i64 (n)] I (fun u J=>∃e:Bool,u = .bool e∧(e=true→b4t c f [] 0=true∧FewBk b∧b5Z l n=true)):=by
 refine enter func90 call90 rfl ntmps90 rfl fun w0=>?_;refine go 4 fun g4=>?_
 refine go 2 fun g5=>?_
 refine go 7 ?_;refine cV (c7g _ vc c hvc f sf hfm _ [] RdS.nil' 0) ?_;refine gS 1 11 (fun h11 p11=>?_) fun h11 p11=>?_
 ·refine go 2 ?_;refine a0n rfl rfl h11 (a0p (c7k _ v0 v1 v2 v3 v4 v5 b hb) rfl rfl (fun v13 I13 j13 q13=>?_))
  try have hv:=hv.le j13
  obtain⟨b13,rfl,hb13⟩:=q13;refine gS 2 15 (fun h15 p15=>?_) fun h15 p15=>?_
  ·refine go 3 ?_;refine a0n rfl rfl h15 (a0y (c7i _ v l hv n hn) rfl rfl ?_);refine go 6 ?_;exact q_i ⟨_,rfl,fun h=>⟨h11,hb13 h15,h⟩⟩
  ·refine go 9 ?_;exact q_i ⟨_,rfl,fun h=>by cases h⟩
 ·refine go 13 ?_;exact q_i ⟨_,rfl,fun h=>by cases h⟩
theorem b1D (I:IMap) (N:Nat) (ih:∀x,cntN x≤N→∀vs,FmRd I vs x→∀m:Int,0≤m→m≤5000→FnE prog 91 #[.agg vs.toArray,.int .i64 (m)] I (fun u=>∃n:Int,u=ci n∧1≤n∧n≤m+1)) (x:Fm) (hN:cntN x≤N+1) (vs:List Value) (hx:FmRd I vs x) (m:Int) (hm0:0≤m) (hm1:m≤5000) :
    FnE prog 91 #[.agg vs.toArray,.int .i64 (m)] I (fun u=>∃n:Int,u=ci n∧1≤n∧n≤m+1):=by
 obtain⟨sk,rfl,hk⟩:=a2a hx;obtain⟨K0,kc,rfl,hK,hkc,hkm⟩:=hk;refine enter func91 call91 rfl ntmps91 rfl fun w0=>?_;refine go 4 fun g2=>?_
 refine go 15 ?_
 refine a0H ((0:Nat)) ((1:Int)) (fun i n=>I)
  (fun i n=>[(1,.int .i64 (m)),(2,.pointer (some ⟨g2,0,none⟩)),(5,.int .i64 (n)),(6,.int .i64 ((i:Nat):Int))])
  (fun i n=>[.blk g2 44 [ci x.op,ci x.n,.slice K0 x.kids.length kc]])
  (fun i n=>i≤x.kids.length∧1≤n∧n≤m+1)
  (fun i n=>x.kids.length-i) ⟨Nat.zero_le _,Int.le_refl _,oM⟩ rfl sb rfl ?_
 intro i n ⟨hi,hn0,hn1⟩;refine gS 9 12 (fun h12 p12=>?_) fun h12 p12=>?_
 ·refine gC 6 (fun h16 p16=>?_) fun h16 p16=>?_
  ·have hlt:i<x.kids.length:=oM;refine go 9 ?_;obtain⟨b23,o23,w23,e23,c23,r23⟩:=RdA.at_ hK (i:=i) oM;refine go 1 ?_;refine o_v rfl (a0N he rfl c23 (Enc.len r23)) ?_;refine go 4 ?_;refine a0W (ih x.kids[i] (by have:=a3w (f:=x) (List.getElem_mem (show i<x.kids.length from oM));omega) _ r23 (m-n) oM oM) rfl rfl fun v28 q28=>?_;obtain⟨n28,rfl,hn28,hn29⟩:=q28;refine go 11 ?_;exact a0r (i+1) (n+n28) ⟨oM,oM,oM⟩ oM rfl sb rfl
  ·refine go 10 ?_;refine o_v rfl (OV.cast (u:=.int .i64 (n)) (a6j rfl rfl) (congrArg (Value.int .i64) (if_neg oM))) ?_;refine go 5 ?_;exact q_e ⟨n,rfl,hn0,hn1⟩
 ·refine go 17 ?_;refine o_v rfl (OV.cast (u:=.int .i64 (n)) (a6j rfl rfl) (congrArg (Value.int .i64) (if_neg oM))) ?_;refine go 5 ?_;exact q_e ⟨n,rfl,hn0,hn1⟩
theorem c3J (I:IMap) (x:Fm) (vs:List Value) (hx:FmRd I vs x) (m:Int) (hm0:0≤m) (hm1:m≤5000):FnE prog 91 #[.agg vs.toArray,.int .i64 (m)] I (fun u=>∃n:Int,u=ci n∧1≤n∧n≤m+1):=by
 have key:∀N x,cntN x≤N→∀vs,FmRd I vs x→∀m:Int,0≤m→m≤5000→FnE prog 91 #[.agg vs.toArray,.int .i64 (m)] I (fun u=>∃n:Int,u=ci n∧1≤n∧n≤m+1):=by
  intro N
  induction N with
  |zero=>intro x h;cases x;simp[cntN]at h
  |succ N ih=>exact fun x hN vs hx m h0 h1=>b1D I N ih x hN vs hx m h0 h1
 exact key (cntN x) x (Nat.le_refl _) vs hx m hm0 hm1
theorem c3I (I:IMap) (x:Fm) (vs:List Value) (hx:FmRd I vs x) :
    FnE prog 32 #[.agg vs.toArray] I (fun u=>∃n:Int,u=ci n):=by
 refine enter func32 call32 rfl ntmps32 rfl fun w0=>?_;refine go 4 fun g1=>?_
 refine go 5 ?_;refine o_v rfl (a2y m0 he rfl (Enc.len (α:=Fm) hx)) ?_;refine go 1 ?_;refine a0W (c3J _ x vs hx 4096 oM oM) rfl rfl fun v4 q4=>?_;obtain⟨n4,rfl,_,_⟩:=q4;refine go 5 ?_;exact q_e ⟨_,rfl⟩
end Go.Proofs.YtgmkjpafapgccaaGreat
set_option linter.all false
namespace Go.Sx
open Go
structure Bit where
 i:Nat
 d:Nat
 deps:List (Nat×Nat)
 p:IMap→Value→Prop
def Bit.pre (b:Bit) (V:Nat→Value):LL:=b.deps.map fun q=>(q.2,V q.1)
def AllB (q:Bit→Prop):List Bit→Prop
 | []=>True
 |b::r=>q b∧AllB q r
theorem AllB.get {q:Bit→Prop}:∀{l:List Bit},AllB q l→∀b∈l,q b
 | [],_,b,hb=>by cases hb
 |x::l,h,b,hb=>by
  rcases List.mem_cons.1 hb with rfl|hb
  ·exact h.1
  ·exact h.2.get b hb
theorem AllB.mk {q:Bit→Prop}:∀{l:List Bit},(∀b∈l,q b)→AllB q l
 | [],_=>trivial
 |x::l,h=>⟨h x (by simp),AllB.mk fun b hb=>h b (by simp[hb])⟩
def d3f (ops:Array Oper) (listed:Array Bool) (bs:List (Nat×Nat×List (Nat×Nat))) (wi:Option Nat) (sz fuel:Nat):Bool:=
 listed.size == ops.size&&(List.range ops.size).all (fun i=>listed.getD i false||(bs.any fun b=>b.1 == i)||wi == some i) &&
 (bs.all fun b=>!listed.getD b.1 true&&Nat.blt b.2.1 sz&&b.2.2.all fun q=>(bs.any fun b'=>b'.1 == q.1&&b'.2.1 == q.2)&&((ops[b.1]?).map fun o=>o.after.any fun e=>Region.binds .any e&&e.on == q.1).getD false) &&
 (bs.map (·.1)).Nodup&&(bs.map (·.2.1)).Nodup&&(match wi with|some i=>Nat.blt i ops.size&&bs.all fun b=>!(b.1 == i)|none=>true) &&
 (List.range ops.size).all (fun i=>((ops[i]?).map fun o=>o.after.all fun e=>!Region.binds .any e||Nat.blt e.on i).getD false) &&
 Nat.ble ((List.range ops.size).filter fun i=>!listed.getD i false).length fuel
section
variable {P:Program} {n:Sz} {E:Ent} {I I0:IMap} {L0:LL} {H0 H1 F:List Res} {Q:Exit→Act→World→Prop} {ops:Array Oper} {fuel:Nat} {listed:Array Bool}
theorem St.append {a:Act} {A X:LL} (h1:St n a A) (h2:St n a X):St n a (A++X):=⟨h1.size,h1.defers,fun i v h=>by
 have key:∀A:LL,look (A++X) i=(look A i).or (look X i):=fun A=>by
  induction A with
  |nil=>rfl
  |cons p A ih=>
   simp only[List.cons_append,look]
   cases hb:Nat.beq i p.1 with
   |true=>rfl
   |false=>exact ih
 rw[key]at h
 cases hq:look A i with
 |none=>rw[hq]at h;exact h2.get i v (by simpa using h)
 |some u=>rw[hq]at h;exact h1.get i v (by rw[hq];simpa using h)⟩
theorem St.of_all {a:Act} {X:LL} (hs:a.tmps.size=n.sz) (hd:a.defers=n.marks) (h:∀q∈X,a.tmps[q.1]? = some q.2):St n a X:=⟨hs,hd,fun i v hv=>by
 induction X with
 |nil=>simp[look]at hv
 |cons p X ih=>
  simp only[look]at hv
  cases hb:Nat.beq i p.1 with
  |true=>
   rw[hb]at hv
   have e1:i=p.1:=Nat.eq_of_beq_eq_true hb;have e2:p.2=v:=by simpa using hv
   rw[e1,←e2];exact h p (by simp)
  |false=>rw[hb]at hv;exact ih (fun q hq=>h q (by simp[hq])) (by simpa using hv)⟩
def wH (listed:Array Bool) (wi:Option Nat) (H0 H1:List Res):List Res:=match wi with|some i=>if listed.getD i false=true then H1 else H0|none=>H0
structure BInv (P:Program) (n:Sz) (E:Ent) (I:IMap) (L0:LL) (H0 H1:List Res) (Bs:List Bit) (wi:Option Nat) (listed:Array Bool) (a:Act) (w:World) (I1:IMap) (V:Nat→Value):Prop where
 le:ILe I I1
 mem:Mem E I1 (wH listed wi H0 H1) w
 st:St n a L0
 bits:∀b∈Bs,listed.getD b.i false=true→a.tmps[b.d]? = some (V b.i)∧b.p I1 (V b.i)
theorem b2Y {l:Array Bool} {i:Nat} (h:l.getD i true=false):l.getD i false=false∧i<l.size:=by
 simp only[Array.getD_eq_getD_getElem?]at h ⊢
 cases hh:l[i]? with
 |none=>rw[hh]at h;cases h
 |some b=>rw[hh]at h;exact⟨by simpa using h,(Array.getElem?_eq_some_iff.1 hh).1⟩
theorem a4g {l:Array Bool} {i j:Nat} (h:i<l.size):(l.setIfInBounds i true).getD j false=if i=j then true else l.getD j false:=by
 simp only[Array.getD_eq_getD_getElem?,Array.getElem?_setIfInBounds]
 by_cases e:i=j
 ·subst e;simp[h]
 ·simp[e]
theorem c9O {l:Array Bool} {i m:Nat} (hi:i<m) (h:i<l.size) (h0:l.getD i false=false):((List.range m).filter fun j=>!(l.setIfInBounds i true).getD j false).length+1=((List.range m).filter fun j=>!l.getD j false).length:=by
 induction m with
 |zero=>omega
 |succ m ih=>
  rw[List.range_succ,List.filter_append,List.filter_append,List.length_append,List.length_append]
  by_cases e:i=m
  ·subst e
   have:((List.range i).filter fun j=>!(l.setIfInBounds i true).getD j false)=(List.range i).filter fun j=>!l.getD j false:=by
    refine List.filter_congr fun j hj=>?_
    have:=List.mem_range.1 hj;rw[a4g h,if_neg oM]
   rw[this];have e1:(l.setIfInBounds i true).getD i false=true:=by rw[a4g h,if_pos rfl]
   rw[List.filter_cons,List.filter_cons,e1,h0]
   simp
  ·have:=ih oM;have e1:(l.setIfInBounds i true).getD m false=l.getD m false:=by rw[a4g h,if_neg e]
   have e2:[m].filter (fun j=>!(l.setIfInBounds i true).getD j false)=[m].filter fun j=>!l.getD j false:=List.filter_congr fun j hj=>by rw[List.mem_singleton.1 hj,e1]
   rw[e2];omega
theorem b0w (A X:LL) (i:Nat):look (A++X) i=(look A i).or (look X i):=by
 induction A with
 |nil=>rfl
 |cons p A ih=>
  simp only[List.cons_append,look]
  cases hb:Nat.beq i p.1 with
  |true=>rfl
  |false=>exact ih
theorem a9q:∀{A:LL} {j:Nat} {u:Value},look A j=some u→∃q∈A,q.1=j∧q.2=u
 | [],_,_,h=>by cases h
 |p::A,j,u,h=>by
  simp only[look]at h
  cases hb:Nat.beq j p.1 with
  |true=>rw[hb]at h;exact⟨p,by simp,(Nat.eq_of_beq_eq_true hb).symm,by simpa using h⟩
  |false=>
   rw[hb]at h
   obtain⟨q,hq,h2⟩:=a9q (A:=A) (by simpa using h);exact⟨q,by simp[hq],h2⟩
theorem b8e:∀{A:LL} {q:Nat×Value},q∈A→∃u,look A q.1=some u
 |p::A,q,h=>by
  simp only[look]
  cases hb:Nat.beq q.1 p.1 with
  |true=>exact⟨p.2,rfl⟩
  |false=>
   rcases List.mem_cons.1 h with rfl|h
   ·rw[Nat.beq_refl]at hb;cases hb
   ·exact b8e h
theorem a5T {α β:Type} {f:α→β}:∀{l:List α},(l.map f).Nodup→∀a∈l,∀b∈l,f a=f b→a=b
 | [],_,a,ha,_,_,_=>by cases ha
 |x::l,h,a,ha,b,hb,e=>by
  have h':=List.nodup_cons.1 h
  rcases List.mem_cons.1 ha with h1|h1
  ·rcases List.mem_cons.1 hb with h2|h2
   ·rw[h1,h2]
   ·exact absurd (by rw[←h1,e];exact List.mem_map_of_mem h2) h'.1
  ·rcases List.mem_cons.1 hb with h2|h2
   ·exact absurd (by rw[←h2,←e];exact List.mem_map_of_mem h1) h'.1
   ·exact a5T h'.2 a h1 b h2 e
def wHe (wi:Option Nat) (H0 H1:List Res):List Res:=match wi with|some _=>H1|none=>H0
theorem d6K (Bs:List Bit) (wi:Option Nat) (hok:d3f ops listed (Bs.map fun b=>(b.i,b.d,b.deps)) wi n.sz fuel=true)
  (hmono:AllB (fun b=>∀I1 I2 v,ILe I1 I2→b.p I1 v→b.p I2 v) Bs) (hfr:AllB (fun b=>look L0 b.d=none) Bs)
  (hw0:∀i,wi=some i→listed.getD i false=false)
  (hC:∀I1 w,ILe I I1→Mem E I1 H0 w→a0P E I0 F w) (hC1:∀i,wi=some i→∀I1 w,ILe I I1→Mem E I1 H1 w→a0P E I0 F w)
  (hstep:AllB (fun b=>∀I1 (V:Nat→Value) X H o,ILe I I1→ops[b.i]? = some o→AllB (fun b'=>(b.deps.any fun q=>q.1 == b'.i)=true→b'.p I1 (V b'.i)) Bs→∀K,(∀v I2,ILe I1 I2→b.p I2 v→SX n E I2 ((b.d,v)::(b.pre V++(L0++X))) H K)→SX n E I1 (b.pre V++(L0++X)) H (one P ops (NQ Q) o K)) Bs)
  (hw:∀i,wi=some i→∀I1 X o,ILe I I1→ops[i]? = some o→∀K,SX n E I1 (L0++X) H1 K→SX n E I1 (L0++X) H0 (one P ops (NQ Q) o K))
  (hend:∀I1 (V:Nat→Value),ILe I I1→AllB (fun b=>b.p I1 (V b.i)) Bs→SX n E I1 ((Bs.map fun b=>(b.d,V b.i))++L0) (wHe wi H0 H1) (Q .normal)) :
  SX n E I L0 H0 (a0Y P ops (NQ Q) (a0P E I0 F) fuel listed):=by
 simp only[d3f,Bool.and_eq_true,List.all_eq_true,List.mem_range,Bool.or_eq_true,List.any_eq_true,beq_iff_eq,decide_eq_true_eq,Bool.not_eq_true',List.mem_map]at hok
 obtain⟨⟨⟨⟨⟨⟨⟨hsz,hcov⟩,hbit⟩,hni⟩,hnd⟩,hwb⟩,hdag⟩,hfu⟩:=hok;have hfu:=Nat.le_of_ble_eq_true hfu;have hui:∀b∈Bs,∀b'∈Bs,b.i=b'.i→b=b':=a5T (f:=fun b:Bit=>b.i) (by simpa[List.map_map,Function.comp_def]using hni);have hud:∀b∈Bs,∀b'∈Bs,b.d=b'.d→b=b':=a5T (f:=fun b:Bit=>b.d) (by simpa[List.map_map,Function.comp_def]using hnd);have hb0:∀b∈Bs,listed.getD b.i false=false:=fun b hb=>(b2Y (hbit (b.i,b.d,b.deps) ⟨b,hb,rfl⟩).1.1).1
 have hwlt:∀i,wi=some i→i<ops.size∧∀b∈Bs,b.i≠i:=fun i hi=>by
  subst hi
  simp only[Bool.and_eq_true,List.all_eq_true,List.mem_map,Bool.not_eq_true']at hwb
  refine⟨by have:=hwb.1;simpa[Nat.blt_eq]using this,fun b hb e=>?_⟩;have:=hwb.2 (b.i,b.d,b.deps) ⟨b,hb,rfl⟩
  simp[e]at this
 have hfin:∀(ls:Array Bool) (a:Act) (w:World) (I1:IMap) (V:Nat→Value),(∀i<ops.size,ls.getD i false=true)→BInv P n E I L0 H0 H1 Bs wi ls a w I1 V→Q .normal a w:=by
  intro ls a w I1 V hall hb
  have hbi:∀b∈Bs,b.i<ops.size:=fun b hb=>by
   have:=(b2Y (hbit (b.i,b.d,b.deps) ⟨b,hb,rfl⟩).1.1).2
   simpa[hsz]using this
  refine hend I1 V hb.le (AllB.mk fun b h=>(hb.bits b h (hall _ (hbi b h))).2) a w (St.append (St.of_all hb.st.size hb.st.defers fun q hq=>?_) hb.st) ?_
  ·obtain⟨b,h,rfl⟩:=List.mem_map.1 hq;exact (hb.bits b h (hall _ (hbi b h))).1
  ·have hm:=hb.mem;unfold wH at hm
   cases hwi:wi with
   |none=>rw[hwi]at hm;exact hm
   |some i=>rw[hwi]at hm;simp only[hall i (hwlt i hwi).1,if_true]at hm;exact hm
 have key:∀(fuel:Nat) (ls:Array Bool) (a:Act) (w:World) (I1:IMap) (V:Nat→Value),ls.size=ops.size→(∀i,listed.getD i false=true→ls.getD i false=true)→((List.range ops.size).filter fun i=>!ls.getD i false).length≤fuel →
   BInv P n E I L0 H0 H1 Bs wi ls a w I1 V→a0Y P ops (NQ Q) (a0P E I0 F) fuel ls a w:=by
  intro fuel
  induction fuel with
  |zero=>
   intro ls a w I1 V hs hle hf hb
   have hall:∀i<ops.size,ls.getD i false=true:=fun i hi=>by
    cases h:ls.getD i false with
    |true=>rfl
    |false=>
     have:i∈(List.range ops.size).filter fun i=>!ls.getD i false:=List.mem_filter.2 ⟨List.mem_range.2 hi,by simp[h]⟩
     rw[List.eq_nil_of_length_eq_zero (Nat.le_zero.1 hf)]at this;cases this
   refine⟨List.eq_nil_iff_forall_not_mem.2 fun i hi=>?_,hfin ls a w I1 V hall hb⟩;obtain⟨h1,h2⟩:=b2Y (mem_ready.1 hi).1;rw[hall i oM]at h1;cases h1
  |succ fuel ih=>
   intro ls a w I1 V hs hle hf hb;refine⟨fun hr=>hfin ls a w I1 V (fun i hi=>?_) hb,fun i hi=>?_⟩
   ·induction i using Nat.strongRecOn with
    |ind i ihi=>
     cases h:ls.getD i false with
     |true=>rfl
     |false=>
      exfalso
      have:i∈Region.ready .any ops ls:=by
       refine mem_ready.2 ⟨?_,ops[i],Array.getElem?_eq_getElem hi,fun e he hbd=>?_⟩
       ·have hil:i<ls.size:=oM
        simp only[Array.getD_eq_getD_getElem?,Array.getElem?_eq_getElem hil,Option.getD_some]at h ⊢;exact h
       ·have:=hdag i hi;rw[Array.getElem?_eq_getElem hi]at this
        simp only[Option.map_some,Option.getD_some,Array.all_eq_true_iff_forall_mem,Bool.or_eq_true,Bool.not_eq_true']at this
        rcases this e he with h1|h1
        ·rw[hbd]at h1;cases h1
        ·have h2:e.on<i:=by simpa[Nat.blt_eq]using h1
         exact ihi e.on h2 oM
      rw[hr]at this;cases this
   ·obtain⟨h1,o,ho,haf⟩:=mem_ready.1 hi;obtain⟨h2,h3⟩:=b2Y h1;have hio:i<ops.size:=oM;have hcnt:=c9O (m:=ops.size) hio h3 h2
    have hX:∀q∈(Bs.filter fun b=>ls.getD b.i false).map (fun b=>(b.d,V b.i)),a.tmps[q.1]? = some q.2:=fun q hq=>by
     obtain⟨b,h,rfl⟩:=List.mem_map.1 hq;obtain⟨h4,h5⟩:=List.mem_filter.1 h;exact (hb.bits b h4 h5).1
    have hxl:∀b∈Bs,ls.getD b.i false=true→∀(Y:LL),(∀u,look Y b.d=some u→u=V b.i)→look (Y++(L0++(Bs.filter fun b=>ls.getD b.i false).map (fun b=>(b.d,V b.i)))) b.d=some (V b.i):=fun b hbm hbd Y hY=>by
     rw[b0w]
     cases hq:look Y b.d with
     |some u=>rw[hY u hq];rfl
     |none=>
      rw[b0w,hfr.get b hbm];obtain⟨u,hu⟩:=b8e (A:=(Bs.filter fun b=>ls.getD b.i false).map (fun b=>(b.d,V b.i))) (q:=(b.d,V b.i)) (List.mem_map.2 ⟨b,List.mem_filter.2 ⟨hbm,hbd⟩,rfl⟩)
      simp only at hu
      obtain⟨q,hq1,hq2,hq3⟩:=a9q hu;obtain⟨b2,h6,rfl⟩:=List.mem_map.1 hq1;have:=hud b2 (List.mem_filter.1 h6).1 b hbm hq2;subst this;rw[hu,←hq3];rfl
    unfold wpO
    simp only[ho]
    rcases hcov i hio with (h4|⟨b',⟨b,hbm,rfl⟩,hbi⟩)|h4
    ·rw[hle i h4]at h2;cases h2
    ·simp only at hbi
     subst hbi
     have hdp:∀q∈b.deps,∃b'∈Bs,b'.i=q.1∧b'.d=q.2∧ls.getD b'.i false=true:=fun q hq=>by
      obtain⟨⟨_,⟨b',hb',rfl⟩,e1,e2⟩,h5⟩:=(hbit (b.i,b.d,b.deps) ⟨b,hbm,rfl⟩).2 q hq;refine⟨b',hb',e1,e2,?_⟩
      simp only[ho,Option.map_some,Option.getD_some]at h5
      obtain⟨k,hk,h8⟩:=Array.any_eq_true.1 h5
      simp only[Bool.and_eq_true,beq_iff_eq]at h8
      obtain⟨h6,h7⟩:=h8;have:=haf _ (Array.getElem_mem hk) h6;rw[h7,←e1]at this;exact this
     have hpre:∀q∈b.pre V,a.tmps[q.1]? = some q.2:=fun q hq=>by
      obtain⟨q0,hq0,rfl⟩:=List.mem_map.1 hq;obtain⟨b',hb',e1,e2,h5⟩:=hdp q0 hq0;have:=(hb.bits b' hb' h5).1;rw[e1,e2]at this;exact this
     refine hstep.get b hbm I1 V ((Bs.filter fun b=>ls.getD b.i false).map (fun b=>(b.d,V b.i))) (wH ls wi H0 H1) o hb.le ho (AllB.mk fun b' hb' hx=>?_) _ (fun v I2 hI2 hp a' w' s' m'=>⟨?_,ih (ls.setIfInBounds b.i true) a' w' I2 (fun j=>if j=b.i then v else V j) (by simp[hs]) (fun j hj=>?_) oM ⟨hb.le.trans hI2,?_,?_,fun b' hb' hx=>?_⟩⟩) a w (St.append (St.of_all hb.st.size hb.st.defers hpre) (St.append hb.st (St.of_all hb.st.size hb.st.defers hX))) hb.mem
     ·obtain⟨q,hq,e⟩:=List.any_eq_true.1 hx;obtain⟨b2,hb2,e1,_,h5⟩:=hdp q hq;have:b2=b':=hui b2 hb2 b' hb' (by rw[e1];simpa using e);subst this;exact (hb.bits b2 hb2 h5).2
     ·unfold wH at m'
      cases hwi:wi with
      |none=>rw[hwi]at m';exact hC I2 w' (hb.le.trans hI2) m'
      |some k=>
       rw[hwi]at m'
       simp only at m'
       split at m'
       ·exact hC1 k hwi I2 w' (hb.le.trans hI2) m'
       ·exact hC I2 w' (hb.le.trans hI2) m'
     ·rw[a4g h3];split
      ·rfl
      ·exact hle j hj
     ·have e:wH (ls.setIfInBounds b.i true) wi H0 H1=wH ls wi H0 H1:=by
       unfold wH
       cases hwi:wi with
       |none=>rfl
       |some k=>simp only;rw[a4g h3,if_neg ((hwlt k hwi).2 b hbm)]
      rw[e];exact m'
     ·refine⟨s'.size,s'.defers,fun j u hj=>s'.get j u ?_⟩;have hjd:∀b'∈Bs,j≠b'.d:=fun b' hb' e=>by rw[e,hfr.get b' hb']at hj;cases hj
      simp only[look]
      have h6:Nat.beq j b.d=false:=by
       cases h:Nat.beq j b.d with
       |false=>rfl
       |true=>exact absurd (Nat.eq_of_beq_eq_true h) (hjd b hbm)
      rw[h6]
      simp only[cond_false]
      rw[b0w,b0w,hj]
      cases hq:look (b.pre V) j with
      |none=>rfl
      |some u2=>
       obtain⟨q,hq1,hq2,_⟩:=a9q hq;obtain⟨q,hq3,rfl⟩:=List.mem_map.1 hq1;obtain⟨b',hb',_,e2,_⟩:=hdp q hq3;exact absurd (hq2.symm.trans e2.symm) (hjd b' hb')
     ·by_cases e:b'.i=b.i
      ·have:=hui b' hb' b hbm e;subst this;refine⟨?_,by simp only[if_true];exact hp⟩
       simp only[if_true]
       exact s'.get b'.d v (by simp[look,Nat.beq_refl])
      ·rw[a4g h3,if_neg (fun h=>e h.symm)]at hx
       simp only[if_neg e]
       refine⟨s'.get b'.d _ ?_,hmono.get b' hb' I1 I2 _ hI2 (hb.bits b' hb' hx).2⟩
       simp only[look]
       have h6:Nat.beq b'.d b.d=false:=by
        cases h:Nat.beq b'.d b.d with
        |false=>rfl
        |true=>exact absurd (congrArg Bit.i (hud b' hb' b hbm (Nat.eq_of_beq_eq_true h))) e
       rw[h6]
       simp only[cond_false]
       refine hxl b' hb' hx _ fun u hu=>?_
       obtain⟨q,hq1,hq2,hq3⟩:=a9q hu;obtain⟨q,hq4,rfl⟩:=List.mem_map.1 hq1;obtain⟨b2,hb2,e1,e2,_⟩:=hdp q hq4;have:b2=b':=hud b2 hb2 b' hb' (e2.trans hq2);subst this;rw[←hq3,e1]
    ·have hwi:wi=some i:=by simpa using h4
     have hne:∀b∈Bs,i≠b.i:=fun b hbm e=>(hwlt i hwi).2 b hbm e.symm
     have hm0:Mem E I1 H0 w:=by
      have hm:=hb.mem;unfold wH at hm
      rw[hwi]at hm
      simp only[h2,Bool.false_eq_true,if_false]at hm;exact hm
     refine hw i hwi I1 ((Bs.filter fun b=>ls.getD b.i false).map (fun b=>(b.d,V b.i))) o hb.le ho _ (fun a' w' s' m'=>⟨hC1 i hwi I1 w' hb.le m',ih (ls.setIfInBounds i true) a' w' I1 V (by simp[hs]) (fun j hj=>?_) oM ⟨hb.le,?_,?_,fun b' hb' hx=>?_⟩⟩) a w (St.append hb.st (St.of_all hb.st.size hb.st.defers hX)) hm0
     ·rw[a4g h3];split
      ·rfl
      ·exact hle j hj
     ·unfold wH;rw[hwi]
      simp only[a4g h3,if_true];exact m'
     ·exact⟨s'.size,s'.defers,fun j u hj=>s'.get j u (by rw[b0w,hj];rfl)⟩
     ·rw[a4g h3,if_neg (hne b' hb')]at hx
      refine⟨s'.get b'.d _ ?_,(hb.bits b' hb' hx).2⟩;have:=hxl b' hb' hx [] (fun u hu=>by cases hu);exact this
 exact fun a w s m=>key fuel listed a w I (fun _=>undef) hsz (fun _ h=>h) hfu ⟨ILe.refl _,by
  unfold wH
  split
  ·rename_i i;rw[if_neg (by rw[hw0 i rfl];decide)];exact m
  ·exact m,s,fun b hb h=>by rw[hb0 b hb]at h;cases h⟩
end
end Go.Sx
