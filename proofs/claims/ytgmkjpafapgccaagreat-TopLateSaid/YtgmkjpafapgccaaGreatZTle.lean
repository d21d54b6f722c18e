
import Derived.Test.YtgmkjpafapgccaaGreatZTld
import Derived.Ground.NamesProg
import Derived.Ground.SlsfProg
import Derived.Shelf.SlGeneric
import Derived.Shelf.SlSortCmp.NoneTotal
import Derived.Shelf.Small.Strs
import Derived.Shelf.Sort.Plain
import Derived.Test.YtgmkjpafapgccaaGreatProg
namespace Go.Proofs.YtgmkjpafapgccaaGreat
open Go Go.Sx Tryz
set_option linter.all false
set_option maxRecDepth 20000
set_option maxHeartbeats 4000000
instance:Has (a1W prog 88) ([.slice none 0 0],1,24):=hk
instance:Has (a1W prog 9) ([.string ⟨#[]⟩],1,16):=hk
instance:Has (a6q prog 372) (88,1):=hk
instance:Has (prog.underlying 372) (.slice 88):=hk
instance:Has (a1i prog 88) [.slice none 0 0]:=hk
theorem d5D (I:IMap) (n:Nat) (hn:n≤1000000) :
    FnX prog 337 #[.slice none 0 0,.int .i64 ((n:Nat):Int)] I [] (fun u r=>r = .row u 9 1 0 []):=by
 refine enter func337 call337 rfl ntmps337 rfl fun w0=>?_;refine go 9 ?_;refine o_v rfl (OV.cast (u:=.bool false) (b9F rfl rfl) (congrArg Value.bool (decide_eq_false oM))) ?_;refine go 10 ?_;refine o_v rfl (c6Z he rfl) ?_;refine go 3 ?_;refine o_v rfl (OV.cast (u:=.int .i64 ((n:Nat):Int)) (a1f rfl rfl ⟨oM,oM⟩) (congrArg (Value.int .i64) oM)) ?_;refine gC 9 (fun h16 p16=>?_) fun h16 p16=>?_
 ·refine go 3 ?_;refine o_v rfl (c6Z he rfl) ?_;refine o_v rfl (a2e he rfl rfl 0 rfl oM) ?_;refine go 2 ?_;refine b2z he he he rfl rfl rfl rfl oM oM (by unfold maxLen;omega) rfl fun g22 r22 hr22=>?_;refine go 2 ?_;refine o_v rfl (a2e he rfl rfl 0 rfl oM) ?_;refine go 11 ?_;refine a2a (xss:=[]) (m:=0) (cap:=n+r22) (k:=1) (by intro c hc;cases hc) (Uk.rep rfl _) rfl (by simp) hr22 ?_;exact q_x rfl
 ·refine go 10 ?_;refine a0G 9 1 ?_;exact q_x rfl
theorem c8I (I:IMap) (v:Value) (ls:List (List ByteArray)) (hv:RdS I v ls) (hb:ls.flatten.length≤1000000) (hl:ls.length≤1000000) :
    FnX prog 308 #[v] I [] (fun u r=>∃xs,r = .row u 9 1 ls.flatten.length xs∧Flat I xs ls.flatten):=by
 obtain⟨A,c0,rfl,hA,hc,hm⟩:=hv;refine enter func308 call308 rfl ntmps308 rfl fun w0=>?_;refine go 19 ?_
 refine a0x (α:=Nat) 0 (fun i=>I)
  (fun i=>[(0,.slice A ls.length c0),(3,.int .i64 (((ls.take (i)).flatten.length:Nat):Int)),(9,.slice A ls.length c0),(10,.int .i64 ((ls.length:Nat):Int)),(11,.int .i64 ((i:Nat):Int))])
  (fun i=>[])
  (fun i=>i≤ls.length)
  (fun i=>ls.length-i) (Nat.zero_le _) rfl sb rfl ?_
 intro i hi;have hfi:=a5U ls i;refine gC 6 (fun h12 p12=>?_) fun h12 p12=>?_
 ·have hlt:i<ls.length:=oM;have hf1:=congrArg List.length (a5V hlt);rw[List.length_append]at hf1
  have hf2:=a5U ls (i+1);refine go 6 ?_;obtain⟨b13,o13,w13,e13,c13,r13⟩:=RdA.at_ hA (i:=i) oM;obtain⟨q13,rfl,S13,d13,rfl,hS13,hd13,hm13⟩:=r13;refine go 10 ?_;refine o_v rfl (OV.cast (u:=.int .i64 (((ls.take (i+1)).flatten.length:Nat):Int)) (a2h rfl rfl ⟨oM,oM⟩) (congrArg (Value.int .i64) oM)) ?_;refine go 6 ?_;refine o_v rfl (OV.cast (u:=.bool false) (b9F rfl rfl) (congrArg Value.bool (decide_eq_false oM))) ?_;refine go 11 ?_;exact a0w (i+1) oM oM rfl sb rfl
 ·have e:i=ls.length:=oM;subst e;rw[List.take_length];refine go 9 ?_;refine a1F (d5D _ ls.flatten.length hb) rfl rfl fun v24 s24 q24=>?_;obtain rfl:=q24;refine go 12 ?_
  refine a3k ((0:Nat)) (_) ([]) (fun i v6 xs=>I)
   (fun i v6 xs=>[(0,.slice A ls.length c0),(6,v6),(25,.slice A ls.length c0),(26,.int .i64 ((ls.length:Nat):Int)),(27,.int .i64 ((i:Nat):Int))])
   (fun i v6 xs=>[.row v6 9 1 (ls.take (i)).flatten.length xs])
   (fun i v6 xs=>i≤ls.length∧Flat I xs (ls.take i).flatten)
   (fun i v6 xs=>ls.length-i) ⟨Nat.zero_le _,.nil⟩ rfl sb rfl ?_
  intro i v6 xs ⟨hi,hF⟩;have hfi:=a5U ls i;refine gC 6 (fun h28 p28=>?_) fun h28 p28=>?_
  ·have hlt:i<ls.length:=oM;have hf1:=congrArg List.length (a5V hlt);rw[List.length_append]at hf1
   have hf2:=a5U ls (i+1);refine go 6 ?_;obtain⟨b29,o29,w29,e29,c29,r29⟩:=RdA.at_ hA (i:=i) oM;obtain⟨q29,rfl,S29,d29,rfl,hS29,hd29,hm29⟩:=r29;refine go 9 ?_;refine a1d (⟨_,_,rfl,hS29,hd29,hm29⟩) rfl he he rfl rfl rfl rfl oM oM rfl fun v33 x33 f33=>?_;refine go 9 ?_;exact a1P (i+1) (_) (_) ⟨oM,by rw[a5V hlt];exact hF.append f33⟩ oM rfl sb (by rw[a5V hlt,List.length_append])
  ·refine go 13 ?_;have e:i=ls.length:=oM;subst e;rw[List.take_length]at hF ⊢
   exact q_x ⟨xs,rfl,hF⟩
theorem b8u (I:IMap) {rest:Rst 1} {cap:Nat} (g:Nat) (l:List ByteArray) (hl:0<l.length) (hl2:l.length≤12) (hc:l.length+rest.l.length=cap) (hcm:cap≤maxLen) :
    FnX prog 309 #[.slice (some ⟨g,0,none⟩) l.length cap] I [.blk g 9 (a1q l++rest.l).flatten] (fun u r=>∃m rest2,(∀x,x∈m↔x∈l)∧m.length≤l.length∧u = .slice (some ⟨g,0,none⟩) m.length cap∧r = .blk g 9 (a1q m++rest2).flatten∧Uk 1 rest2∧m.length+rest2.length=cap):=by
 refine enter func309 call309 rfl ntmps309 rfl fun w0=>?_;refine gC 13 (fun h8 p8=>?_) fun h8 p8=>?_
 ·refine go 9 ?_;exact q_x ⟨l,rest.l,fun _=>Iff.rfl,Nat.le_refl _,rfl,rfl,rest.uk,hc⟩
 ·refine go 9 ?_
  refine a0x (α:=Nat) 1 (fun k0=>I)
   (fun k0=>[(0,.slice (some ⟨g,0,none⟩) l.length cap),(3,.int .i64 ((k0:Nat):Int))])
   (fun k0=>[.blk g 9 (a1q l++rest.l).flatten])
   (fun k0=>1≤k0∧k0≤l.length)
   (fun k0=>l.length-k0) ⟨Nat.le_refl _,hl⟩ rfl sb rfl ?_
  intro k0 ⟨hk1,hk2⟩;refine gC 9 (fun h13 p13=>?_) fun h13 p13=>?_
  ·have hkl:k0<l.length:=oM;have hkm:k0-1<l.length:=oM;refine go 6 ?_;refine dG 0 2 ?_;refine a0I 2 rfl rfl (by kernel_rfl) rfl (.refl _) rfl (a0m he rfl rfl rfl (k0) oM oM) ?_;refine a0I 3 rfl rfl (by kernel_rfl) rfl (.refl _) rfl (a6n m0 (Uk.append (a1I _) rest.uk) he rfl (k0) oM (a5r hkl)) ?_;refine dG 4 2 ?_;refine a0I 6 rfl rfl (by kernel_rfl) rfl (.refl _) rfl (OV.cast (u:=.int .i64 ((k0-1:Nat):Int)) (a1f rfl rfl ⟨oM,oM⟩) (congrArg (Value.int .i64) oM)) ?_;refine a0I 7 rfl rfl (by kernel_rfl) rfl (.refl _) rfl (a0m he rfl rfl rfl (k0-1) oM oM) ?_;refine a0I 8 rfl rfl (by kernel_rfl) rfl (.refl _) rfl (a6n m0 (Uk.append (a1I _) rest.uk) he rfl (k0-1) oM (a5r hkm)) ?_;refine dG 9 1 ?_;refine gC 2 (fun h25 p25=>?_) fun h25 p25=>?_
   ·have hst:Cpt l l k0 (k0+1):=Cpt.start hk1 hkl p25;refine go 4 ?_;refine o_v rfl (OV.cast (u:=.slice (some ⟨g,k0,none⟩) (l.length-k0) (cap-k0)) (a0E he rfl rfl k0 oM oM) (by rw[c3M,if_neg oM];simp[add_lit])) ?_;refine go 10 ?_
    refine a3k (1) (k0) (l) (fun q k B=>I)
     (fun q k B=>[(0,.slice (some ⟨g,0,none⟩) l.length cap),(3,.int .i64 ((k:Nat):Int)),(4,.slice (some ⟨g,k0,none⟩) (l.length-k0) (cap-k0)),(5,.int .i64 ((q:Nat):Int))])
     (fun q k B=>[.blk g 9 (a1q B++rest.l).flatten])
     (fun q k B=>1≤q∧1≤k∧Cpt l B k (k0+q))
     (fun q k B=>l.length-(k0+q)) ⟨Nat.le_refl _,hk1,hst⟩ rfl sb rfl ?_
    intro q k B ⟨hq,hk,hB⟩;have hBl:=hB.len;have hkp:=hB.kp;have hpl:=hB.pl;refine go 5 ?_;refine o_v rfl (OV.cast (u:=.int .i64 ((l.length-k0:Nat):Int)) (a3w he rfl) rfl) ?_;refine gC 3 (fun h32 p32=>?_) fun h32 p32=>?_
    ·have hpq:k0+q<l.length:=oM;have hpB:k0+q<B.length:=oM;have hpm:k0+q-1<B.length:=oM;have hg1:=hB.get (j:=k0+q) oM hpq hpB;have hg2:=hB.get (j:=k0+q-1) oM oM hpm;refine go 6 ?_;refine dG 0 2 ?_;refine a0I 2 rfl rfl (by kernel_rfl) rfl (.refl _) rfl (a0m he rfl rfl rfl (q) oM oM) ?_;refine a0I 3 rfl rfl (by kernel_rfl) rfl (.refl _) rfl (a6n m0 (Uk.append (a1I _) rest.uk) he rfl (k0+q) oM (a5r hpB)) ?_;refine dG 4 2 ?_;refine a0I 6 rfl rfl (by kernel_rfl) rfl (.refl _) rfl (OV.cast (u:=.int .i64 ((q-1:Nat):Int)) (a1f rfl rfl ⟨oM,oM⟩) (congrArg (Value.int .i64) oM)) ?_;refine a0I 7 rfl rfl (by kernel_rfl) rfl (.refl _) rfl (a0m he rfl rfl rfl (q-1) oM oM) ?_;refine a0I 8 rfl rfl (by kernel_rfl) rfl (.refl _) rfl (a6n m0 (Uk.append (a1I _) rest.uk) he rfl (k0+q-1) oM (a5r hpm)) ?_;refine dG 9 1 ?_;refine gC 2 (fun h44 p44=>?_) fun h44 p44=>?_
     ·refine go 6 ?_;refine o_v rfl (a0m he rfl rfl rfl (q) oM oM) ?_;refine o_v rfl (a6n m0 (Uk.append (a1I _) rest.uk) he rfl (k0+q) oM (a5r hpB)) ?_;refine o_v rfl (a0m he rfl rfl rfl (k) oM oM) ?_;refine go 1 ?_;refine a1O _ (k) (Uk.append (a1I _) rest.uk) he rfl rfl rfl rfl rfl oM (by simp[a2g];omega) ?_;refine go 15 ?_;exact a1P (q+1) (k+1) (B.set k l[k0+q]) ⟨oM,oM,hB.keep hpq⟩ oM rfl sb (by rw[←hg1,←a8d oM])
     ·refine go 9 ?_;exact a1P (q+1) (k) (B) ⟨oM,hk,hB.skip hpq (by rw[←hg1,←hg2];simpa using h44) oM⟩ oM rfl sb rfl
    ·have hend:k0+q=l.length:=oM;have hdone:=fun x=>(hend▸hB).done x
     refine go 9 ?_;refine o_v rfl (OV.cast (u:=.slice (some ⟨g,k,none⟩) (l.length-k) (cap-k)) (a0E he rfl rfl k oM oM) (by rw[c3M,if_neg oM];simp[add_lit])) ?_;refine go 1 ?_;refine b5I k he he rfl rfl rfl rfl (Uk.append (a1I _) rest.uk) (fun _=>by rw[Nat.mul_one]) (by simp[a2g];omega) ?_;rw[c2U oM];refine go 6 ?_;refine o_v rfl (a2e he rfl rfl k oM oM) ?_;refine go 10 ?_;refine q_x ⟨B.take k,List.replicate (l.length-k) [.string ⟨#[]⟩]++rest.l,hdone,by rw[List.length_take];omega,?_,rfl,(Uk.rep rfl _).append rest.uk,by rw[List.length_take,List.length_append,List.length_replicate];omega⟩;rw[List.length_take,Nat.min_eq_left oM]
   ·refine go 9 ?_;exact a0w (k0+1) ⟨oM,oM⟩ oM rfl sb rfl
  ·refine go 13 ?_;exact q_x ⟨l,rest.l,fun _=>Iff.rfl,Nat.le_refl _,rfl,rfl,rest.uk,hc⟩
theorem b8t (I:IMap) (v:Value) (l:List ByteArray) (xs:List Value) (hF:Flat I xs l) (hl:0<l.length) (hl2:l.length≤12) :
  FnX prog 309 #[v] I [.row v 9 1 l.length xs] (fun u r=>∃m ys,(∀x,x∈m↔x∈l)∧m.length≤l.length∧Flat I ys m∧r = .row u 9 1 m.length ys):=
 FnX.of_rowF (args:=fun v=>[v]) hF rfl rfl hl fun g cap rest xss hv hC hR hc hcm=>by
  subst hv;obtain rfl:=b7V hC;refine FnX.backE (k:=1) ((b8u I (rest:=⟨rest,hR⟩) g l hl hl2 hc hcm).weak ?_);rintro u r ⟨m,rest2,hm,hml,rfl,rfl,hR2,hc2⟩;exact⟨a1q m,rest2,m.length,cap,a1I m,hR2,a2g m,hc2,hcm,rfl,m,_,hm,hml,(a3d I m).flat,rfl⟩
theorem c9A (I:IMap) (v:Value) (ls:List (List ByteArray)) (hv:RdS I v ls) (hl:ls.length≤1000000) (h1:0<ls.flatten.length) (h2:ls.flatten.length≤12) :
    FnX prog 261 #[v] I [] (fun u r=>∃m ys,(∀x,x∈m↔x∈ls.flatten)∧m.length≤ls.flatten.length∧Flat I ys m∧r = .row u 9 1 m.length ys):=by
 refine enter func261 call261 rfl ntmps261 rfl fun w0=>?_;refine go 9 ?_;refine a1F (c8I _ v ls hv oM hl) rfl rfl fun v5 s5 q5=>?_;obtain⟨xs5,rfl,hF5⟩:=q5;refine go 7 ?_;refine a0K (d0V _ _ ls.flatten xs5 hF5 h1 h2) rfl rfl fun v7 s7 q7=>?_;obtain⟨rfl,m,ys,hpm,hFm,rfl⟩:=q7;rw[←hpm.1];refine go 6 ?_;refine a0K (b8t _ _ m ys hFm (by rw[hpm.1];exact h1) (by rw[hpm.1];exact h2)) rfl rfl fun v9 s9 q9=>?_;obtain⟨m2,zs,hm2,hl2,hFz,rfl⟩:=q9;refine go 5 ?_;exact q_x ⟨m2,zs,fun x=>(hm2 x).trans (hpm.2 x),by have:=hpm.1;omega,hFz,rfl⟩
theorem c6k (I:IMap) (r:Rep) (S:Option Addr) (d:Nat) (hr:RdS I (.slice S r.options.length d) r.options) (hs:∀e∈r.options,SmE e) :
    FnI prog 191 #[.agg (r.cells (.slice S r.options.length d)).toArray] I (fun u J=>∃ns,RdS J u ns∧a8X r ns):=by
 have hSA:RdA I S r.options:=hr.toA;have hl5:=hr.lenLe;refine enter func191 call191 rfl ntmps191 rfl fun w0=>?_;refine go 4 fun g1=>?_
 refine go 8 ?_;refine cV (a8O _ r S d hr hs) ?_;refine gC 3 (fun h8 p8=>?_) fun h8 p8=>?_
 ·refine go 8 ?_;exact q_i ⟨[],RdS.nil',b8W (by simpa using h8)⟩
 ·have hvr:a0l r=true:=by simpa using h8
  have hvl:=a2S hvr;refine go 4 ?_;refine a0G 88 1 ?_;refine go 13 ?_;refine a0b ?_;refine a0a ?_
  refine a4G ((0:Nat)) (_) ([]) (I) (fun i v3 xs J=>J)
   (fun i v3 xs J=>[(3,v3),(10,.slice S r.options.length d),(11,.int .i64 ((r.options.length:Nat):Int)),(12,.int .i64 ((i:Nat):Int))])
   (fun i v3 xs J=>[.row v3 88 1 i xs])
   (fun i v3 xs J=>i≤r.options.length∧ILe I J∧Flat J xs ((r.options.take i).map a3N))
   (fun i v3 xs J=>r.options.length-i) ⟨Nat.zero_le _,ILe.refl _,.nil⟩ rfl sb rfl ?_
  intro i v3 xs J ⟨hi,hJ,hF⟩;have hSA:=hSA.le hJ;refine gC 6 (fun h13 p13=>?_) fun h13 p13=>?_
  ·have hlt:i<r.options.length:=oM;refine go 6 ?_;obtain⟨b14,o14,w14,e14,c14,r14⟩:=RdA.at_ hSA (i:=i) oM;obtain rfl:=r14;refine go 4 fun g5=>?_
   refine go 8 ?_;refine a0p (c8X _ r.options[i] (hs _ (List.getElem_mem hlt))) rfl rfl fun v18 I18 j18 q18=>?_;have q18s:=q18;obtain⟨A18,c18,rfl,_,_,_⟩:=q18;refine go 2 fun v19=>?_
   refine go 1 ?_;refine a0d ?_;refine a0z he he rfl rfl rfl rfl rfl oM oM rfl fun v20=>?_;refine go 9 ?_;refine a0b ?_;refine a0a ?_;refine a0b ?_;refine a0a ?_;exact a1V (i+1) (_) (_) (_) ⟨oM,hJ.trans j18,by rw[←a0c hlt,List.map_append];exact (hF.le j18).append (.one ⟨_,rfl,q18s⟩)⟩ oM rfl sb rfl
  ·have e:i=r.options.length:=oM;subst e;rw[List.take_length]at hF
   have hnf:=a7S r.options (a5c hvr);refine go 7 ?_;refine a0i (l:=(r.options.map a3N)) rfl (by rw[List.length_map]) (hF) fun Ip jp Rp=>?_;refine go 2 ?_;refine a1F (c9A _ _ (r.options.map a3N) Rp (by rw[List.length_map];omega) oM oM) rfl rfl fun v23 s23 q23=>?_;obtain⟨m,ys,hm,hml,hFm,rfl⟩:=q23;refine a0i (l:=m) rfl rfl (hFm) fun Iq jq Rq=>?_;refine go 5 ?_;exact q_i ⟨m,Rq,b3V hvr hm hml⟩
end Go.Proofs.YtgmkjpafapgccaaGreat
namespace Go.Proofs.YtgmkjpafapgccaaGreat
open Go Go.Sx Tryz
set_option linter.all false
set_option maxRecDepth 20000
set_option maxHeartbeats 4000000
theorem c2t (I:IMap) (v:Value) (l:List Rep) (hv:RdS I v l) (hl:l.length≤1000000) (hsl:∀r∈l,∀e∈r.options,SmE e) (most:Int) (hmo:most≤4096) :
    FnV prog 36 #[v,.int .i64 most] I (.int .i64 ((a5f most 1 l:Nat):Int)):=by
 obtain⟨A,c0,rfl,hA,hc,hm⟩:=hv;refine enter func36 call36 rfl ntmps36 rfl fun w0=>?_;refine go 17 ?_
 refine a0L (0) (1) (fun i n=>I)
  (fun i n=>[(0,.slice A l.length c0),(1,.int .i64 most),(5,.int .i64 ((n:Nat):Int)),(6,.int .i64 ((i:Nat):Int))])
  (fun i n=>[])
  (fun i n=>i≤l.length∧n≤1000000∧a5f most 1 l=a5f most n (l.drop i))
  (fun i n=>l.length-i) ⟨Nat.zero_le _,oM,rfl⟩ rfl sb rfl ?_
 intro i n ⟨hi,hn,hw⟩;refine gS 8 11 (fun h11 p11=>?_) fun h11 p11=>?_
 ·refine gC 6 (fun h15 p15=>?_) fun h15 p15=>?_
  ·have hlt:i<l.length:=oM;have hnm:((n:Nat):Int)≤most:=oM;have hc5:=a8D l[i];have hcn:=b0Z l[i];have hpn:n * max 1 (chs l[i]).toNat≤4096 * 5:=Nat.mul_le_mul oM oM;have hpi:(n:Int) * ((max 1 (chs l[i]).toNat:Nat):Int)=((n * max 1 (chs l[i]).toNat:Nat):Int):=(Int.natCast_mul _ _).symm
   generalize hmx:max 1 (chs l[i]).toNat=mx at hpn hpi
   refine go 8 ?_;obtain⟨b21,o21,w21,e21,c21,r21⟩:=RdA.at_ hA (i:=i) oM;obtain⟨q21,rfl,S21,d21,rfl,hS21,hd21,hm21⟩:=r21;refine go 3 ?_;refine cV (b4v _ l[i] S21 d21 ⟨_,_,rfl,hS21,hd21,hm21⟩ (hsl _ (List.getElem_mem hlt))) ?_;refine o_v rfl (OV.cast (u:=.int .i64 ((mx:Nat):Int)) (d1t rfl rfl) (congrArg (Value.int .i64) (by split<;>omega))) ?_;refine o_v rfl (OV.cast (u:=.int .i64 ((n * mx:Nat):Int)) (b4M rfl rfl ⟨oM,oM⟩) (congrArg (Value.int .i64) (by rw[hpi]))) ?_;refine go 10 ?_;exact a0n (i+1) (n * mx) ⟨oM,oM,by rw[hw,c3E hlt oM,hmx]⟩ oM rfl sb rfl
  ·refine go 13 ?_;exact q_v (congrArg (Value.int .i64) (by rw[hw,c7e oM]))
 ·refine go 20 ?_;obtain rfl:i=l.length:=oM;exact q_v (congrArg (Value.int .i64) (by rw[hw,List.drop_length];rfl))
end Go.Proofs.YtgmkjpafapgccaaGreat
namespace Go.Proofs.YtgmkjpafapgccaaGreat
open Go Go.Sx Tryz
set_option linter.all false
set_option maxRecDepth 20000
set_option maxHeartbeats 4000000
instance:Has (a1W prog 3) ([.int .i64 0],1,8):=hk
instance:Has (a6q prog 196) (3,1):=hk
instance:Has (prog.underlying 196) (.slice 3):=hk
theorem a8L (I:IMap) (g cap:Nat) (F:List Nat) (rest:List (List Value)) (hR:Uk 1 rest) (hF:Fst F) (i:Nat) (hi:i<F.length) :
    FnG prog 102 #[.slice (some ⟨g,0,none⟩) F.length cap,.int .i64 ((i:Nat):Int)] I (.blk g 3 (a9R F++rest).flatten) (fun u J r=>∃G,u = .int .i64 ((rt F i:Nat):Int)∧r = .blk g 3 (a9R G++rest).flatten∧G.length=F.length∧Fst G∧∀q,rt G q=rt F q):=by
 refine enter func102 call102 rfl ntmps102 rfl fun w0=>?_;refine go 7 ?_
 refine a0L (i) (F) (fun j G=>I)
  (fun j G=>[(0,.slice (some ⟨g,0,none⟩) F.length cap),(1,.int .i64 ((j:Nat):Int))])
  (fun j G=>[.blk g 3 (a9R G++rest).flatten])
  (fun j G=>j<F.length∧G.length=F.length∧Fst G∧(∀q,rt G q=rt F q)∧rt F j=rt F i)
  (fun j G=>j) ⟨hi,rfl,hF,fun _=>rfl,rfl⟩ rfl sb rfl ?_
 intro j G ⟨hj,hG,hFG,hr,hje0⟩;have hjG:j<G.length:=oM;have hup:up G j=G[j]:=d1k hjG;have hle:G[j]≤j:=by rw[←hup];exact hFG j
 have hgG:G[j]<G.length:=oM;have hup2:up G (up G j)=G[G[j]]:=by rw[hup];exact d1k hgG
 have hle2:G[G[j]]≤G[j]:=by have:=hFG G[j];rw[d1k hgG]at this;exact this
 refine go 5 ?_;refine o_v rfl (a0m he rfl rfl rfl (j) oM oM) ?_;refine o_v rfl (a6n m0 (Uk.append (a4L _) hR) he rfl (j) oM (b2v hjG)) ?_;refine gC 4 (fun h10 p10=>?_) fun h10 p10=>?_
 ·have hjne:G[j]<j:=oM;refine go 10 ?_;refine o_v rfl (a0m he rfl rfl rfl (j) oM oM) ?_;refine o_v rfl (a6n m0 (Uk.append (a4L _) hR) he rfl (j) oM (b2v hjG)) ?_;refine o_v rfl (a0m he rfl rfl rfl (G[j]) oM oM) ?_;refine o_v rfl (a6n m0 (Uk.append (a4L _) hR) he rfl (G[j]) oM (b2v hgG)) ?_;refine o_v rfl (a0m he rfl rfl rfl (j) oM oM) ?_;refine go 1 ?_;refine a1O _ (j) (Uk.append (a4L _) hR) he rfl rfl rfl rfl rfl oM (by rw[List.length_append,a4z];omega) ?_;refine a6g (a9R (G.set j G[G[j]])++rest).flatten (by rw[b7p hjG]) ?_;refine go 5 ?_;refine o_v rfl (a0m he rfl rfl rfl (j) oM oM) ?_;refine o_v rfl (OV.cast (u:=.int .i64 ((G[G[j]]:Nat):Int)) (a6n m0 (Uk.append (a4L _) hR) he rfl (j) oM (b2v (by simp;omega))) (congrArg (Value.int .i64) (by simp))) ?_;refine go 4 ?_;exact a0n (G[G[j]]) (G.set j G[G[j]]) ⟨oM,by simp[hG],hup2▸(hFG.half hjG).1,fun q=>by rw[←hup2,(hFG.half hjG).2 q,hr q],by rw[←hje0,←hr,←hr j,←hup2,hFG.rt_up,hFG.rt_up]⟩ oM rfl sb rfl
 ·have hje:rt F i=j:=by rw[←hje0,←hr j];exact a3b oM
  refine go 13 ?_;exact q_g ⟨G,by rw[hje],rfl,hG,hFG,hr⟩
theorem c5p (I:IMap) (g cap:Nat) (F:List Nat) (rest:List (List Value)) (hR:Uk 1 rest) (hF:Fst F) (a b:Nat) (ha:a<F.length) (hb:b<F.length) :
    FnG prog 192 #[.slice (some ⟨g,0,none⟩) F.length cap,.int .i64 ((a:Nat):Int),.int .i64 ((b:Nat):Int)] I (.blk g 3 (a9R F++rest).flatten) (fun u J r=>∃G,u = .tuple #[]∧r = .blk g 3 (a9R G++rest).flatten∧G.length=F.length∧Fst G∧∀q,rt G q=if rt F q=rt F a∨rt F q=rt F b then min (rt F a) (rt F b) else rt F q):=by
 refine enter func192 call192 rfl ntmps192 rfl fun w0=>?_;refine go 5 ?_;refine a1x (a8L _ g cap F rest hR hF a ha) rfl rfl fun v10 I10 s10 j10 q10=>?_;obtain⟨G,rfl,rfl,hG,hFG,hr⟩:=q10;refine go 3 ?_;refine a1x (hG▸a8L _ g cap G rest hR hFG b oM) rfl rfl fun v13 I13 s13 j13 q13=>?_;obtain⟨G2,rfl,rfl,hG2,hFG2,hr2⟩:=q13;have hra:=d0H F a;have hrb:=d0H F b;rw[hr b];have hmx:max (rt F a) (rt F b)<G2.length:=oM;refine go 8 ?_;refine o_v rfl (OV.cast (u:=.int .i64 ((max (rt F a) (rt F b):Nat):Int)) (d1t rfl rfl) (congrArg (Value.int .i64) (by split<;>omega))) ?_;refine go 2 ?_;refine o_v rfl (OV.cast (u:=.int .i64 ((min (rt F a) (rt F b):Nat):Int)) (d4n rfl rfl) (congrArg (Value.int .i64) (by split<;>omega))) ?_;refine o_v rfl (a0m he rfl rfl rfl (max (rt F a) (rt F b)) oM oM) ?_;refine go 1 ?_;refine a1O _ (max (rt F a) (rt F b)) (Uk.append (a4L _) hR) he rfl rfl rfl rfl rfl oM (by rw[List.length_append,a4z];omega) ?_;refine a6g (a9R (G2.set (max (rt F a) (rt F b)) (min (rt F a) (rt F b)))++rest).flatten (by rw[b7p hmx]) ?_;refine go 2 ?_;have hid:∀q,rt G2 q=rt F q:=fun q=>(hr2 q).trans (hr q)
 obtain⟨m1,m2⟩:=hFG2.meet (a:=rt F a) (b:=rt F b) (by rw[hid,b6d]) (by rw[hid,b6d]) oM oM;exact q_g ⟨_,rfl,rfl,by simp;omega,m1,fun q=>by rw[m2 q,hid q]⟩
theorem b8R (I:IMap) (v:Value) (l:List Rep) (hv:RdS I v l) (hl:l.length≤1000000) (hsl:∀r∈l,∀e∈r.options,SmE e)  :
    FnH prog 101 #[v] I [] (fun u J H2=>∃w m F kvs fm,u = .tuple #[w,.map (some m)]∧H2=[.row w 3 1 F.length (a9R F).flatten,.mp m (a1u Value.string kvs)]∧Lkd l l.length (fun k z=>∃h:k<l.length,nm l[k] z) F fm∧(∀z,a3U kvs z=(fm z).map fun (q:Nat)=>Value.int .i64 (q:Int))):=by
 have hv0:=hv;obtain⟨A,c0,rfl,hA,hc,hm⟩:=hv;refine enter func101 call101 rfl ntmps101 rfl fun w0=>?_;refine go 8 ?_;refine a0G 3 1 ?_;refine go 6 ?_;refine a4W (Value.string) he rfl fun r11=>?_;refine go 12 ?_;refine a0b ?_
 refine c8w ((0:Nat)) (_) ([]) ([]) ((fun _=>none)) (I) (fun i v4 F kvs fm J=>J)
  (fun i v4 F kvs fm J=>[(0,.slice A l.length c0),(5,.map (some r11)),(13,.int .i64 ((l.length:Nat):Int)),(14,.int .i64 ((i:Nat):Int)),(4,v4)])
  (fun i v4 F kvs fm J=>[.row v4 3 1 F.length (a9R F).flatten,.mp r11 (a1u Value.string kvs)])
  (fun i v4 F kvs fm J=>i≤l.length∧ILe I J∧Lkd l i (fun k z=>k<i∧∃h:k<l.length,nm l[k] z) F fm∧(∀z,a3U kvs z=(fm z).map fun (q:Nat)=>Value.int .i64 (q:Int)))
  (fun i v4 F kvs fm J=>l.length-i) ⟨Nat.zero_le _,ILe.refl _,Lkd.start.congr (fun k z h=>absurd h.1 (Nat.not_lt_zero k)),fun z=>rfl⟩ rfl sb rfl ?_
 intro i v4 F kvs fm J ⟨hi,hJ,hK,hM⟩;have hlF:=hK.len;have hv0:=hv0.le hJ;have hA:=hA.le hJ;refine gC 6 (fun h15 p15=>?_) fun h15 p15=>?_
 ·have hlt:i<l.length:=oM;refine go 16 fun v19=>?_
  refine go 1 ?_;refine a0b ?_;refine a0z he he rfl rfl rfl rfl rfl oM oM rfl fun v20=>?_;refine go 5 ?_;refine b7Y (ys:=(a9R (F++[i])).flatten) (show _=_ from c1K F i) ?_;refine a7A (a4L (F++[i])) (by simp[a4z]) (fun h0 _=>oM) fun g21 cap21 rest21 hv21 hR21 hcap21 hmax21=>?_;subst hv21;refine go 2 ?_;obtain⟨b23,o23,w23,e23,c23,r23⟩:=RdA.at_ hA (i:=i) oM;obtain⟨q23,rfl,S23,d23,rfl,hS23,hd23,hm23⟩:=r23;refine go 3 ?_;refine a0p (c6k _ l[i] S23 d23 ⟨_,_,rfl,hS23,hd23,hm23⟩ (hsl _ (List.getElem_mem hlt))) rfl rfl fun v25 I25 j25 q25=>?_
  try have hv0:=hv0.le j25
  try have hA:=hA.le j25
  try have hNA:=hNA.le j25
  obtain⟨ns,hns,hno⟩:=q25;obtain⟨NA,nc,rfl,hNA,_,_⟩:=hns;have hnl:=hno.2;refine go 5 ?_;refine a0b ?_;refine a0a ?_
  refine a5g ((0:Nat)) ((F++[i])) (kvs) (fm) (_) (fun j G kvs2 fm2 J2=>J2)
   (fun j G kvs2 fm2 J2=>[(0,.slice A l.length c0),(5,.map (some r11)),(13,.int .i64 ((l.length:Nat):Int)),(14,.int .i64 ((i:Nat):Int)),(4,.slice (some ⟨g21,0,none⟩) (F.length+1) cap21),(6,.int .i64 ((i:Nat):Int)),(25,.slice NA ns.length nc),(26,.int .i64 ((ns.length:Nat):Int)),(27,.int .i64 ((j:Nat):Int))])
   (fun j G kvs2 fm2 J2=>[.blk g21 3 (a9R G++rest21).flatten,.mp r11 (a1u Value.string kvs2)])
   (fun j G kvs2 fm2 J2=>j≤ns.length∧ILe I25 J2∧Lkd l (i+1) (fun k z=>(k<i∧∃h:k<l.length,nm l[k] z)∨(k=i∧z∈ns.take j)) G fm2∧(∀z,a3U kvs2 z=(fm2 z).map fun (q:Nat)=>Value.int .i64 (q:Int)))
   (fun j G kvs2 fm2 J2=>ns.length-j) ⟨Nat.zero_le _,ILe.refl _,(hK.push hlt).congr (fun k z h=>h.elim id fun h=>by simp at h),hM⟩ rfl sb rfl ?_
  intro j G kvs2 fm2 J2 ⟨hj,hJ2,hK2,hM2⟩;have hGl:G.length=F.length+1:=by rw[hK2.len,hlF]
  have hG1:=hK2.len;have hv0:=hv0.le hJ2;have hA:=hA.le hJ2;have hNA:=hNA.le hJ2;refine gC 6 (fun h28 p28=>?_) fun h28 p28=>?_
  ·have hlj:j<ns.length:=oM;refine go 6 ?_;obtain⟨b29,o29,w29,e29,c29,r29⟩:=RdA.at_ hNA (i:=j) oM;obtain rfl:=r29;refine go 9 ?_;refine o_v rfl (a8t m1 (a0y he) he he (ns[j]) rfl rfl rfl rfl) ?_;refine gC 12 (fun h37 p37=>?_) fun h37 p37=>?_
   ·obtain⟨q,hq⟩:∃q,fm2 ns[j]=some q:=by
      rw[hM2]at h37
      cases hq:fm2 ns[j]with
      |none=>rw[hq]at h37;cases h37
      |some q=>exact⟨q,rfl⟩
    have hmg:(a3U kvs2 ns[j]).getD (.int .i64 0) = .int .i64 (q:Int):=by rw[hM2,hq];rfl
    rw[hmg];have hq1:=(hK2.own _ q hq).1;refine go 5 ?_;refine a1x (hGl▸c5p _ g21 cap21 G rest21 hR21 hK2.fst q i oM oM) rfl rfl fun v41 I41 s41 j41 q41=>?_
    try have hv0:=hv0.le j41
    try have hA:=hA.le j41
    try have hNA:=hNA.le j41
    obtain⟨G2,rfl,rfl,hG2,hFG2,hr2⟩:=q41;refine go 8 ?_;exact a2M (j+1) (G2) (kvs2) (fm2) (_) ⟨oM,hJ2.trans j41,(hK2.hit oM ⟨hlt,(c9P hno _).1 (List.getElem_mem hlj)⟩ hq hFG2 (hG2.trans hGl.symm) hr2).congr fun k z h=>b7e hlj h,hM2⟩ oM rfl sb rfl
   ·have hq0:fm2 ns[j]=none:=by
      rw[hM2]at h37
      cases hq:fm2 ns[j]with
      |none=>rfl
      |some q=>rw[hq]at h37;cases h37
    refine go 5 ?_;refine a0b ?_;refine a2i (a3P kvs2 ns[j] (.int .i64 (i:Int))) (a0y he) he (ns[j]) rfl rfl rfl (rfl) ?_;refine go 8 ?_;refine a0b ?_;exact a2M (j+1) (G) ((a3P kvs2 ns[j] (.int .i64 (i:Int)))) ((fun y=>if ns[j]=y then some i else fm2 y)) (_) ⟨oM,hJ2,(hK2.new oM ⟨hlt,(c9P hno _).1 (List.getElem_mem hlj)⟩ hq0).congr fun k z h=>b7e hlj h,c9K hM2 ns[j] i⟩ oM rfl sb rfl
  ·obtain rfl:j=ns.length:=oM;rw[List.take_length]at hK2
   refine a2a (a4L G) hR21 (by rw[a4z];omega) hcap21 hmax21 ?_;refine go 11 ?_;exact d0z (i+1) (_) (G) (kvs2) (fm2) (_) ⟨oM,hJ.trans (j25.trans hJ2),hK2.congr (fun k z h=>c9J hlt hno h),hM2⟩ oM rfl sb (by simp only[hGl])
 ·obtain rfl:i=l.length:=oM;refine go 15 ?_;exact a3g (fun _ m=>m) ⟨_,_,F,kvs,fm,rfl,rfl,hK.congr (fun k z h=>⟨h.1,h⟩),hM⟩
end Go.Proofs.YtgmkjpafapgccaaGreat
namespace Go.Proofs.YtgmkjpafapgccaaGreat
open Go Go.Sx Tryz
set_option linter.all false
set_option maxRecDepth 20000
set_option maxHeartbeats 4000000
instance:Has (a1W prog 81) ([.int .i64 0,.int .i64 0],2,16):=hk
instance:Has (a6q prog 236) (81,2):=hk
instance:Has (a6q prog 25) (27,3):=hk
instance:Has (a6q prog 414) (331,1):=hk
instance:Has (a1g prog 239 0) (0,true,6):=hk
instance:Has (a1g prog 27 0) (0,false,1):=hk
instance:Has (a1g prog 27 1) (1,false,1):=hk
instance:Has (a1g prog 27 2) (2,false,1):=hk
instance : Has (a9O prog 239 "bogie/formula.apply") 370 := hk
instance : Has (a9O prog 239 "bogie/formula.choose") 371 := hk
instance : Has (a9O prog 239 "bogie/formula.letter") 372 := hk
instance : Has (a9O prog 239 "bogie/formula.number") 373 := hk
instance:Has (plK prog 239) [(0,6)]:=hk
instance:Has (plK prog 81) [(0,1),(1,1)]:=hk
theorem T.stk_239:b0n prog 239=true:=by kernel_rfl
instance:Has (tyK prog 236) (false,1):=hk
instance:Has (tyK prog 25) (false,1):=hk
instance:Has (tyK prog 27) (true,3):=hk
instance:Has (tyK prog 331) (false,1):=hk
instance:Has (prog.underlying 236) (.slice 81):=hk
instance T.und_25:Has (prog.underlying 25) (.slice 27):=hk
instance:Has (prog.underlying 331) (.int .i64):=hk
instance:Has (prog.underlying 414) (.slice 331):=hk
instance:Has (a1i prog 236) [.slice none 0 0]:=hk
instance:Has (a1i prog 239) [.int .i64 0,.int .i64 0,.int .i64 0,.int .i64 0,.int .i64 0,.int .i64 0]:=hk
instance:Has (a1i prog 27) [.int .i64 0,.int .i64 0,.slice none 0 0]:=hk
instance:Has (a1i prog 331) [.int .i64 0]:=hk
instance:Has (a1i prog 81) [.int .i64 0,.int .i64 0]:=hk
theorem a9I (I:IMap) (x:Ivl) :
    FnV prog 251 #[.agg x.cells.toArray] I (.bool (a2l x)):=by
 refine enter func251 call251 rfl ntmps251 rfl fun w0=>?_;refine go 4 fun g1=>?_
 refine gS 9 6 (fun h6 p6=>?_) fun h6 p6=>?_
 ·refine gS 7 13 (fun h13 p13=>?_) fun h13 p13=>?_
  ·refine go 9 ?_;exact q_v (congrArg Value.bool (by simp only[a2l,h6,h13,bS]))
  ·refine go 9 ?_;exact q_v (congrArg Value.bool (by simp only[a2l,h6,h13,bS]))
 ·refine go 16 ?_;exact q_v (congrArg Value.bool (by simp only[a2l,h6,bS]))
theorem d2O (I:IMap) (n:Int) :
    FnV prog 278 #[.int .i64 (n)] I (.int .i64 (b1F n)):=by
 refine enter func278 call278 rfl ntmps278 rfl fun w0=>?_;refine go 8 ?_;refine o_v rfl (OV.cast (u:=.int .i64 (min n (1000000000000:Int))) (a8u rfl rfl) (congrArg (Value.int .i64) oM)) ?_;refine o_v rfl (OV.cast (u:=.int .i64 (b1F n)) (a5s rfl rfl) (congrArg (Value.int .i64) (by unfold b1F;omega))) ?_;refine go 5 ?_;exact q_v rfl
theorem c9x (I:IMap) (a b:Int) (ha : -(1000000000000:Int)≤a∧a≤(1000000000000:Int)) (hb : -(1000000000000:Int)≤b∧b≤(1000000000000:Int)) :
    FnV prog 215 #[.int .i64 (a),.int .i64 (b)] I (.int .i64 (b1F (a+b))):=by
 refine enter func215 call215 rfl ntmps215 rfl fun w0=>?_;refine go 11 ?_;refine cV (d2O _ _) ?_;refine go 5 ?_;exact q_v rfl
theorem c5c (I:IMap) (a b:Int) (ha : -(1000000000000:Int)≤a∧a≤(1000000000000:Int)) (hb : -(1000000000000:Int)≤b∧b≤(1000000000000:Int)) :
    FnV prog 378 #[.int .i64 (a),.int .i64 (b)] I (.int .i64 (b1F (a-b))):=by
 refine enter func378 call378 rfl ntmps378 rfl fun w0=>?_;refine go 11 ?_;refine cV (d2O _ _) ?_;refine go 5 ?_;exact q_v rfl
theorem c0d (I:IMap) (x y:Nat) (hx:x<18446744073709551616) (hy:y<18446744073709551616) :
    FnV prog 382 #[.int .u64 ((x:Nat):Int),.int .u64 ((y:Nat):Int)] I (.tuple #[.int .u64 ((x * y / 18446744073709551616:Nat):Int),.int .u64 ((x * y % 18446744073709551616:Nat):Int)]):=by
 obtain⟨bd,bt,bw,hhi⟩:=Lib.mul64_hi x y hx hy;have ba:=Lib.half_mul_le (a:=x / 4294967296) (b:=y / 4294967296) oM oM;have bb:=Lib.half_mul_le (a:=x / 4294967296) (b:=y % 4294967296) oM oM;have bc:=Lib.half_mul_le (a:=x % 4294967296) (b:=y / 4294967296) oM oM;refine enter func382 call382 rfl ntmps382 rfl fun w0=>?_;refine go 9 ?_;refine o_v rfl (c3y hx rfl) ?_;refine go 6 ?_;refine o_v rfl (c3v rfl) ?_;refine go 6 ?_;refine o_v rfl (c3y hy rfl) ?_;refine go 6 ?_;refine o_v rfl (c3v rfl) ?_;refine go 7 ?_;refine o_v rfl (b8g rfl rfl bd) ?_;refine go 7 ?_;refine o_v rfl (b8g rfl rfl oM) ?_;refine go 1 ?_;refine o_v rfl (c3v rfl) ?_;refine o_v rfl (b8d rfl rfl bt) ?_;refine go 6 ?_;refine o_v rfl (c3y bt rfl) ?_;refine go 6 ?_;refine o_v rfl (c3v rfl) ?_;refine go 8 ?_;refine o_v rfl (b8g rfl rfl oM) ?_;refine o_v rfl (b8d rfl rfl bw) ?_;refine go 7 ?_;refine o_v rfl (b8g rfl rfl oM) ?_;refine go 1 ?_;refine o_v rfl (b8d rfl rfl oM) ?_;refine go 1 ?_;refine o_v rfl (c3v rfl) ?_;refine o_v rfl (b8d rfl rfl oM) ?_;refine go 7 ?_;refine o_v rfl (d4o rfl rfl) ?_;refine go 5 ?_;exact q_v (by rw[hhi])
theorem c5d (I:IMap) (a b:Int) (ha : -(1000000000000:Int)≤a∧a≤(1000000000000:Int)) (hb : -(1000000000000:Int)≤b∧b≤(1000000000000:Int)) :
    FnV prog 379 #[.int .i64 (a),.int .i64 (b)] I (.int .i64 (b1F (a * b))):=by
 refine enter func379 call379 rfl ntmps379 rfl fun w0=>?_;refine go 9 ?_;refine o_v rfl (d1u rfl ⟨oM,oM⟩) ?_;refine o_v rfl (OV.cast (u:=.int .i64 (((a.natAbs:Nat):Int))) (a5s rfl rfl) (congrArg (Value.int .i64) oM)) ?_;refine o_v rfl (a1K he he rfl (m:=((a.natAbs:Nat):Int)) (wrap_u64 _ oM oM)) ?_;refine go 2 ?_;refine o_v rfl (d1u rfl ⟨oM,oM⟩) ?_;refine o_v rfl (OV.cast (u:=.int .i64 (((b.natAbs:Nat):Int))) (a5s rfl rfl) (congrArg (Value.int .i64) oM)) ?_;refine o_v rfl (a1K he he rfl (m:=((b.natAbs:Nat):Int)) (wrap_u64 _ oM oM)) ?_;refine go 1 ?_;refine cV (c0d _ a.natAbs b.natAbs oM oM) ?_;refine go 13 ?_;refine a1N (I':=I) (L':=[(0,.int .i64 (a)),(1,.int .i64 (b)),(7,.int .i64 (min ((a.natAbs * b.natAbs:Nat):Int) (1000000000000:Int)))]) (H':=[]) ?_ ?_
 ·refine gS 5 24 (fun h24 p24=>?_) fun h24 p24=>?_
  ·refine gC 5 (fun h27 p27=>?_) fun h27 p27=>?_
   ·refine go 2 ?_;refine o_v rfl (a1K he he rfl (m:=((a.natAbs * b.natAbs % 18446744073709551616:Nat):Int)) (by rw[IntKind.wrap_i64];omega)) ?_;refine go 3 ?_;exact a0o ⟨rfl,rfl,(congrArg (fun z=>some (Value.int .i64 z)) oM),trivial⟩ rfl rfl
   ·refine go 2 ?_;exact a0o ⟨rfl,rfl,(congrArg (fun z=>some (Value.int .i64 z)) oM),trivial⟩ rfl rfl
  ·refine go 8 ?_;exact a0o ⟨rfl,rfl,(congrArg (fun z=>some (Value.int .i64 z)) oM),trivial⟩ rfl rfl
 ·refine go 7 ?_;refine o_v rfl (c3t he rfl rfl) ?_;refine gC 2 (fun h34 p34=>?_) fun h34 p34=>?_
  ·refine go 3 ?_;refine o_v rfl (d1u rfl ⟨oM,oM⟩) ?_;refine go 6 ?_;exact q_v (congrArg (Value.int .i64) (d0Q h34))
  ·refine go 10 ?_;exact q_v (congrArg (Value.int .i64) (d0R h34))
theorem d3Y (I:IMap) (v:Value) (l:List Int) (hv:RdS I v l) (h0:0<l.length) :
    FnV prog 319 #[v] I (.int .i64 (b5C l (l.length-1))):=by
 obtain⟨A,c0,rfl,hA,hc,hm⟩:=hv;refine enter func319 call319 rfl ntmps319 rfl fun w0=>?_;refine gC 13 (fun h7 p7=>?_) fun h7 p7=>?_
 ·exfalso;omega
 ·refine go 5 ?_;obtain⟨b10,o10,w10,e10,c10,r10⟩:=RdA.at_ hA (i:=0) oM;obtain rfl:=r10;refine o_v rfl (a0m he rfl rfl e10 (0) oM oM) ?_;refine go 11 ?_
  refine a0x (α:=Nat) 0 (fun i=>I)
   (fun i=>[(0,.slice A l.length c0),(3,.int .i64 (b5C l i)),(4,.int .i64 ((i+1:Nat):Int))])
   (fun i=>[])
   (fun i=>i<l.length)
   (fun i=>l.length-i) h0 rfl ⟨rfl,by rw[c1I h0];rfl,rfl,trivial⟩ rfl ?_
  intro i hx;refine gC 9 (fun h15 p15=>?_) fun h15 p15=>?_
  ·refine go 8 ?_;obtain⟨b21,o21,w21,e21,c21,r21⟩:=RdA.at_ hA (i:=i+1) oM;obtain rfl:=r21;refine o_v rfl (a0m he rfl rfl e21 (i+1) oM oM) ?_;refine go 1 ?_;refine o_v rfl (OV.cast (u:=.int .i64 (b5C l (i+1))) (a8u rfl rfl) (congrArg (Value.int .i64) (c1H oM))) ?_;refine go 10 ?_;exact a0w (i+1) oM oM rfl sb rfl
  ·obtain rfl:i=l.length-1:=oM;refine go 13 ?_;exact q_v rfl
theorem d3X (I:IMap) (v:Value) (l:List Int) (hv:RdS I v l) (h0:0<l.length) :
    FnV prog 320 #[v] I (.int .i64 (b5B l (l.length-1))):=by
 obtain⟨A,c0,rfl,hA,hc,hm⟩:=hv;refine enter func320 call320 rfl ntmps320 rfl fun w0=>?_;refine gC 13 (fun h7 p7=>?_) fun h7 p7=>?_
 ·exfalso;omega
 ·refine go 5 ?_;obtain⟨b10,o10,w10,e10,c10,r10⟩:=RdA.at_ hA (i:=0) oM;obtain rfl:=r10;refine o_v rfl (a0m he rfl rfl e10 (0) oM oM) ?_;refine go 11 ?_
  refine a0x (α:=Nat) 0 (fun i=>I)
   (fun i=>[(0,.slice A l.length c0),(3,.int .i64 (b5B l i)),(4,.int .i64 ((i+1:Nat):Int))])
   (fun i=>[])
   (fun i=>i<l.length)
   (fun i=>l.length-i) h0 rfl ⟨rfl,by rw[c1E h0];rfl,rfl,trivial⟩ rfl ?_
  intro i hx;refine gC 9 (fun h15 p15=>?_) fun h15 p15=>?_
  ·refine go 8 ?_;obtain⟨b21,o21,w21,e21,c21,r21⟩:=RdA.at_ hA (i:=i+1) oM;obtain rfl:=r21;refine o_v rfl (a0m he rfl rfl e21 (i+1) oM oM) ?_;refine go 1 ?_;refine o_v rfl (OV.cast (u:=.int .i64 (b5B l (i+1))) (a5s rfl rfl) (congrArg (Value.int .i64) (c1D oM))) ?_;refine go 10 ?_;exact a0w (i+1) oM oM rfl sb rfl
  ·obtain rfl:i=l.length-1:=oM;refine go 13 ?_;exact q_v rfl
theorem b7b (I:IMap) (v:Value) (l:List Int) (hv:RdS I v l) (h0:0<l.length) :
    FnV prog 277 #[v] I (.agg #[.int .i64 (b5C l (l.length-1)),.int .i64 (b5B l (l.length-1))]):=by
 refine enter func277 call277 rfl ntmps277 rfl fun w0=>?_;refine go 4 fun g2=>?_
 refine go 6 ?_;refine cV (d3Y _ _ l hv h0) ?_;refine go 2 ?_;refine cV (d3X _ _ l hv h0) ?_;refine go 7 ?_;exact q_v rfl
theorem c1t (I:IMap) (a b:Ivl) (g:FuncId) (f:Int→Int→Int) (hf:∀x y,(-(1000000000000:Int)≤x∧x≤(1000000000000:Int))→(-(1000000000000:Int)≤y∧y≤(1000000000000:Int))→FnV prog g #[.int .i64 (x),.int .i64 (y)] I (.int .i64 (f x y))) :
    FnV prog 214 #[.agg a.cells.toArray,.agg b.cells.toArray,.func (.func g) #[] #[]] I (.agg (b0B f a b).cells.toArray):=by
 refine enter func214 call214 rfl ntmps214 rfl fun w0=>?_;refine go 4 fun g3=>?_
 refine go 2 fun g4=>?_
 refine go 2 fun g6=>?_
 refine go 4 ?_;refine a1N (I':=I) (L':=[(2,.func (.func g) #[] #[]),(3,.pointer (some ⟨g3,0,none⟩)),(4,.pointer (some ⟨g4,0,none⟩)),(6,.pointer (some ⟨g6,0,none⟩)),(18,.bool (!a2l a || !a2l b))]) (H':=[.blk g3 81 a.cells,.blk g4 81 b.cells,.blk g6 81 [.int .i64 (0),.int .i64 (0)]]) ?_ ?_
 ·refine go 3 ?_;refine cV (a9I _ a) ?_;refine gS 2 14 (fun h14 p14=>?_) fun h14 p14=>?_
  ·refine go 6 ?_;refine a0b ?_;refine a0d ?_;exact a0o ⟨rfl,rfl,rfl,rfl,(bB (by simp only[h14,bS])),trivial⟩ rfl rfl
  ·refine go 2 ?_;refine a0q rfl rfl h14 (a0v (a9I _ b) rfl rfl ?_);refine go 4 ?_;refine a0b ?_;refine a0d ?_;exact a0o ⟨rfl,rfl,rfl,rfl,(bB (by simp only[h14,bS])),trivial⟩ rfl rfl
 ·refine gC 0 (fun h18 p18=>?_) fun h18 p18=>?_
  ·refine go 4 ?_;refine a0d ?_;refine go 6 ?_;exact q_v (by rw[c8s h18];rfl)
  ·obtain⟨⟨ha1,ha2⟩,hb1,hb2⟩:=c8r h18;refine go 4 ?_;refine dG 0 12 ?_;refine go 8 ?_;refine cV (hf _ _ ha1 hb1) ?_;refine go 4 ?_;refine cV (hf _ _ ha1 hb2) ?_;refine go 4 ?_;refine cV (hf _ _ ha2 hb1) ?_;refine go 4 ?_;refine cV (hf _ _ ha2 hb2) ?_;refine go 2 fun v44=>?_
   refine go 1 ?_;refine a9W m0 rfl rfl ((a7Q [f a.low b.low,f a.low b.high,f a.high b.low,f a.high b.high])) (fun I2 hI2 hR=>b7b _ _ [f a.low b.low,f a.low b.high,f a.high b.low,f a.high b.high] hR (Nat.zero_lt_succ _)) rfl rfl ?_;refine go 1 ?_;refine a0u ?_;refine go 5 ?_;exact q_v (by rw[c4d h18];rfl)
theorem a1S (I:IMap) (a b:Ivl) :
    FnV prog 137 #[.agg a.cells.toArray,.agg b.cells.toArray] I (.agg (c3T a b).cells.toArray):=by
 refine enter func137 call137 rfl ntmps137 rfl fun w0=>?_;refine go 4 fun g2=>?_
 refine go 2 fun g3=>?_
 refine go 2 fun g4=>?_
 refine go 7 ?_;refine cV (c1t _ a b _ _ (fun x y hx hy=>c9x _ x y hx hy)) ?_;refine go 6 ?_;exact q_v rfl
theorem d5H (I:IMap) (a b:Ivl) :
    FnV prog 374 #[.agg a.cells.toArray,.agg b.cells.toArray] I (.agg (d6n a b).cells.toArray):=by
 refine enter func374 call374 rfl ntmps374 rfl fun w0=>?_;refine go 4 fun g2=>?_
 refine go 2 fun g3=>?_
 refine go 2 fun g4=>?_
 refine go 7 ?_;refine cV (c1t _ a b _ _ (fun x y hx hy=>c5c _ x y hx hy)) ?_;refine go 6 ?_;exact q_v rfl
theorem d5G (I:IMap) (a b:Ivl) :
    FnV prog 375 #[.agg a.cells.toArray,.agg b.cells.toArray] I (.agg (d5V a b).cells.toArray):=by
 refine enter func375 call375 rfl ntmps375 rfl fun w0=>?_;refine go 4 fun g2=>?_
 refine go 2 fun g3=>?_
 refine go 2 fun g4=>?_
 refine go 7 ?_;refine cV (c1t _ a b _ _ (fun x y hx hy=>c5d _ x y hx hy)) ?_;refine go 6 ?_;exact q_v rfl
theorem c7D (I:IMap) (a b:Ivl) :
    FnV prog 377 #[.agg a.cells.toArray,.agg b.cells.toArray] I (.agg (a4v a b).cells.toArray):=by
 refine enter func377 call377 rfl ntmps377 rfl fun w0=>?_;refine go 4 fun g2=>?_
 refine go 2 fun g3=>?_
 refine go 2 fun g4=>?_
 refine go 4 ?_;refine a1N (I':=I) (L':=[(2,.pointer (some ⟨g2,0,none⟩)),(3,.pointer (some ⟨g3,0,none⟩)),(4,.pointer (some ⟨g4,0,none⟩)),(12,.bool (!a2l a || !a2l b))]) (H':=[.blk g2 81 a.cells,.blk g3 81 b.cells,.blk g4 81 [.int .i64 (0),.int .i64 (0)]]) ?_ ?_
 ·refine go 3 ?_;refine cV (a9I _ a) ?_;refine gS 2 8 (fun h8 p8=>?_) fun h8 p8=>?_
  ·refine go 6 ?_;refine a0b ?_;refine a0d ?_;exact a0o ⟨rfl,rfl,rfl,(bB (by simp only[h8,bS])),trivial⟩ rfl rfl
  ·refine go 2 ?_;refine a0q rfl rfl h8 (a0v (a9I _ b) rfl rfl ?_);refine go 4 ?_;refine a0b ?_;refine a0d ?_;exact a0o ⟨rfl,rfl,rfl,(bB (by simp only[h8,bS])),trivial⟩ rfl rfl
 ·refine gC 0 (fun h12 p12=>?_) fun h12 p12=>?_
  ·refine go 4 ?_;refine a0d ?_;refine go 6 ?_;exact q_v (by rw[c9z h12];rfl)
  ·refine go 14 fun v22=>?_
   refine go 1 ?_;refine a9W m0 rfl rfl ((a7Q [a.low,a.high,b.low,b.high])) (fun I2 hI2 hR=>b7b _ _ [a.low,a.high,b.low,b.high] hR (Nat.zero_lt_succ _)) rfl rfl ?_;refine go 1 ?_;refine a0u ?_;refine go 5 ?_;exact q_v (by rw[c5f h12];rfl)
theorem c7E (I:IMap) (x:Ivl) (n:Int) :
    FnV prog 170 #[.agg x.cells.toArray,.int .i64 (n)] I (.int .i64 (b0P x n)):=by
 refine enter func170 call170 rfl ntmps170 rfl fun w0=>?_;refine go 4 fun g2=>?_
 refine go 6 ?_;refine a1N (I':=I) (L':=[(1,.int .i64 (n)),(2,.pointer (some ⟨g2,0,none⟩)),(5,.bool (!a2l x||decide (x.high≤n)))]) (H':=[.blk g2 81 x.cells]) ?_ ?_
 ·refine go 3 ?_;refine cV (a9I _ x) ?_;refine gS 2 9 (fun h9 p9=>?_) fun h9 p9=>?_
  ·refine go 8 ?_;exact a0o ⟨rfl,rfl,(bB (by simp only[h9,bS])),trivial⟩ rfl rfl
  ·refine go 8 ?_;exact a0o ⟨rfl,rfl,(bB (by simp only[h9,bS])),trivial⟩ rfl rfl
 ·refine gC 0 (fun h5 p5=>?_) fun h5 p5=>?_
  ·refine go 9 ?_;exact q_v (congrArg (Value.int .i64) (by unfold b0P;rw[if_pos h5]))
  ·refine gC 9 (fun h15 p15=>?_) fun h15 p15=>?_
   ·refine go 9 ?_;exact q_v (congrArg (Value.int .i64) (by unfold b0P;rw[if_neg (by rw[h5];decide),if_pos p15]))
   ·refine go 10 ?_;exact q_v (congrArg (Value.int .i64) (by unfold b0P;rw[if_neg (by rw[h5];decide),if_neg p15]))
theorem b3D (I:IMap) (N:Nat) (ih:∀(f:Fm),cntN f≤N→∀vs,FmRd I vs f→∀m:Int,0≤m→m≤1000→FnV prog 116 #[.agg vs.toArray,.int .i64 (m)] I (.int .i64 (nodesF f m))) (f:Fm) (hN:cntN f≤N+1) (vs:List Value) (hr:FmRd I vs f) (m:Int) (h0:0≤m) (h1:m≤1000) :
    FnV prog 116 #[.agg vs.toArray,.int .i64 (m)] I (.int .i64 (nodesF f m)):=by
 obtain⟨s,rfl,hs⟩:=a2b hr;obtain⟨A,c0,rfl,hA,hc,hm⟩:=hs;refine enter func116 call116 rfl ntmps116 rfl fun w0=>?_;refine go 4 fun g2=>?_
 refine go 18 ?_;refine a0a ?_
 refine a0L ((0:Nat)) ((1:Int)) (fun i n=>I)
  (fun i n=>[(1,.int .i64 (m)),(5,.int .i64 (n)),(9,.slice A f.kids.length c0),(10,.int .i64 (f.kids.length:Int)),(11,.int .i64 ((i:Nat):Int))])
  (fun i n=>[])
  (fun i n=>i≤f.kids.length∧(1≤n∧n≤m+1)∧nodesL (f.kids.drop i) n m=nodesF f m)
  (fun i n=>f.kids.length-i) ⟨Nat.zero_le _,⟨oM,oM⟩,a9U⟩ rfl sb rfl ?_
 intro i n ⟨hi,hn,hq⟩;refine gC 6 (fun h12 p12=>?_) fun h12 p12=>?_
 ·have hlt:i<f.kids.length:=oM;refine go 6 ?_;obtain⟨b13,o13,w13,e13,c13,r13⟩:=RdA.at_ hA (i:=i) oM;replace r13:=a2b r13;obtain⟨s13,rfl,hs13⟩:=r13;refine go 4 fun g7=>?_
  refine go 1 ?_;refine a0Q _ he rfl rfl rfl rfl rfl (Enc.one (α:=Fm) (a3O hs13)) ?_;refine gC 10 (fun h17 p17=>?_) fun h17 p17=>?_
  ·refine go 15 ?_;exact q_v (congrArg (Value.int .i64) (b1v hlt hq p17))
  ·have hkn:=b2x f.kids[i] (m-n) oM;refine go 9 ?_;refine a0v (ih f.kids[i] (by have:=a4H (List.getElem_mem hlt);omega) _ (a3O hs13) _ oM oM) rfl rfl ?_;refine go 10 ?_;refine a0a ?_;exact a0n (i+1) (_) ⟨oM,oM,b1u hlt hq p17⟩ oM rfl sb rfl
 ·refine go 13 ?_;exact q_v (congrArg (Value.int .i64) (b3Y oM hq))
theorem c9m (I:IMap) (f:Fm) (vs:List Value) (hr:FmRd I vs f) (m:Int) (h0:0≤m) (h1:m≤1000):FnV prog 116 #[.agg vs.toArray,.int .i64 (m)] I (.int .i64 (nodesF f m)):=by
 have key:∀(N:Nat) (f:Fm),cntN f≤N→∀vs,FmRd I vs f→∀m:Int,0≤m→m≤1000→FnV prog 116 #[.agg vs.toArray,.int .i64 (m)] I (.int .i64 (nodesF f m)):=by
  intro N
  induction N with
  |zero=>intro f hN;exact absurd hN (by cases f;simp[cntN])
  |succ N ih=>intro f hN vs hr m h0 h1;exact b3D I N ih f hN vs hr m h0 h1
 exact key (cntN f) f (Nat.le_refl _) vs hr m h0 h1
theorem b3E (I:IMap) (N:Nat) (ih:∀(f:Fm),cntN f≤N→∀vs,FmRd I vs f→FnV prog 117 #[.agg vs.toArray] I (.bool (rightF f))) (f:Fm) (hN:cntN f≤N+1) (vs:List Value) (hr:FmRd I vs f) :
    FnV prog 117 #[.agg vs.toArray] I (.bool (rightF f)):=by
 obtain⟨s,rfl,hs⟩:=a2b hr;obtain⟨A,c0,rfl,hA,hc,hm⟩:=hs;refine enter func117 call117 rfl ntmps117 rfl fun w0=>?_;refine go 4 fun g1=>?_
 refine go 9 ?_;refine a6M (α:=Unit) (Ix:=(fun u=>I)) (Lx:=(fun u=>[(1,.pointer (some ⟨g1,0,none⟩)),(3,.int .i64 (a8i f.op))])) (Hx:=(fun u=>[.blk g1 27 [ci f.op,ci f.n,.slice A f.kids.length c0]])) (p:=(fun u=>b3h f=false)) ?_ ?_
 ·refine go 2 ?_;refine a1N (I':=I) (L':=[(1,.pointer (some ⟨g1,0,none⟩)),(3,.int .i64 (0)),(6,.bool (b3h f))]) (H':=[.blk g1 27 [ci f.op,ci f.n,.slice A f.kids.length c0]]) ?_ ?_
  ·refine gS 5 10 (fun h10 p10=>?_) fun h10 p10=>?_
   ·refine go 7 ?_;exact a0o ⟨rfl,rfl,(bB (by simp only[b3h,h10,bS])),trivial⟩ rfl rfl
   ·refine go 7 ?_;exact a0o ⟨rfl,rfl,(bB (by simp only[b3h,h10,bS])),trivial⟩ rfl rfl
  ·refine gC 0 (fun h6 p6=>?_) fun h6 p6=>?_
   ·refine go 9 ?_;exact q_v (congrArg Value.bool (c6p h6).symm)
   ·refine gC 8 (fun h15 p15=>?_) fun h15 p15=>?_
    ·refine go 5 ?_;exact a2n () h6 ⟨rfl,(congrArg (fun z=>some (Value.int .i64 z)) (by unfold a8i;split<;>(try split)<;>omega)),trivial⟩ rfl rfl
    ·refine gC 8 (fun h19 p19=>?_) fun h19 p19=>?_
     ·refine go 5 ?_;exact a2n () h6 ⟨rfl,(congrArg (fun z=>some (Value.int .i64 z)) (by unfold a8i;split<;>(try split)<;>omega)),trivial⟩ rfl rfl
     ·refine go 3 ?_;exact a2n () h6 ⟨rfl,(congrArg (fun z=>some (Value.int .i64 z)) (by unfold a8i;split<;>(try split)<;>omega)),trivial⟩ rfl rfl
 ·intro u h6;refine go 2 ?_;refine a1N (I':=I) (L':=[(1,.pointer (some ⟨g1,0,none⟩)),(47,.bool (b0z f))]) (H':=[.blk g1 27 [ci f.op,ci f.n,.slice A f.kids.length c0]]) ?_ ?_
  ·refine gS 7 28 (fun h28 p28=>?_) fun h28 p28=>?_
   ·refine go 21 ?_;exact a0o ⟨rfl,(bB (by simp only[b0z,h28,bS])),trivial⟩ rfl rfl
   ·refine gS 5 33 (fun h33 p33=>?_) fun h33 p33=>?_
    ·refine go 16 ?_;exact a0o ⟨rfl,(bB (by simp only[b0z,h28,h33,bS])),trivial⟩ rfl rfl
    ·refine gS 5 38 (fun h38 p38=>?_) fun h38 p38=>?_
     ·refine go 11 ?_;exact a0o ⟨rfl,(bB (by simp only[b0z,h28,h33,h38,bS])),trivial⟩ rfl rfl
     ·refine gS 4 42 (fun h42 p42=>?_) fun h42 p42=>?_
      ·refine go 7 ?_;exact a0o ⟨rfl,(bB (by simp only[b0z,h28,h33,h38,h42,bS])),trivial⟩ rfl rfl
      ·refine go 7 ?_;exact a0o ⟨rfl,(bB (by simp only[b0z,h28,h33,h38,h42,bS])),trivial⟩ rfl rfl
  ·refine gC 0 (fun h47 p47=>?_) fun h47 p47=>?_
   ·refine go 8 ?_;exact q_v (congrArg Value.bool (c6q h47).symm)
   ·refine go 12 ?_;refine a0a ?_
    refine a0x (α:=Nat) 0 (fun i=>I)
     (fun i=>[(49,.slice A f.kids.length c0),(50,.int .i64 (f.kids.length:Int)),(51,.int .i64 ((i:Nat):Int))])
     (fun i=>[])
     (fun i=>i≤f.kids.length∧a3A (fun _ k=>rightF k) f.kids i=true)
     (fun i=>f.kids.length-i) ⟨Nat.zero_le _,rfl⟩ rfl sb rfl ?_
    intro i ⟨hi,hn⟩;refine gC 6 (fun h52 p52=>?_) fun h52 p52=>?_
    ·have hlt:i<f.kids.length:=oM;refine go 6 ?_;obtain⟨b53,o53,w53,e53,c53,r53⟩:=RdA.at_ hA (i:=i) oM;replace r53:=a2b r53;obtain⟨s53,rfl,hs53⟩:=r53;refine go 4 fun g5=>?_
     refine go 1 ?_;refine a0Q _ he rfl rfl rfl rfl rfl (Enc.one (α:=Fm) (a3O hs53)) ?_;refine go 6 ?_;refine cV (ih f.kids[i] (by have:=a4H (List.getElem_mem hlt);omega) _ (a3O hs53)) ?_;refine gC 3 (fun h57 p57=>?_) fun h57 p57=>?_
     ·refine go 12 ?_;exact q_v (congrArg Value.bool (c2B hlt (by simpa using h57)).symm)
     ·refine go 8 ?_;refine a0a ?_;exact a0w (i+1) ⟨oM,a1l (f:=fun _ k=>rightF k) hn hlt (by simpa using h57)⟩ oM rfl sb rfl
    ·refine go 12 ?_;have e:i=f.kids.length:=oM;subst e;exact q_v (congrArg Value.bool (c2A h6 h47 hn).symm)
theorem c9n (I:IMap) (f:Fm) (vs:List Value) (hr:FmRd I vs f):FnV prog 117 #[.agg vs.toArray] I (.bool (rightF f)):=by
 have key:∀(N:Nat) (f:Fm),cntN f≤N→∀vs,FmRd I vs f→FnV prog 117 #[.agg vs.toArray] I (.bool (rightF f)):=by
  intro N
  induction N with
  |zero=>intro f hN;exact absurd hN (by cases f;simp[cntN])
  |succ N ih=>intro f hN vs hr;exact b3E I N ih f hN vs hr
 exact key (cntN f) f (Nat.le_refl _) vs hr
theorem c1e (I:IMap) (f:Fm) (vs:List Value) (hr:FmRd I vs f) :
    FnV prog 52 #[.agg vs.toArray] I (.bool (a2C f)):=by
 have hl:=Enc.len (α:=Fm) hr;refine enter func52 call52 rfl ntmps52 rfl fun w0=>?_;refine go 4 fun g1=>?_
 refine go 5 ?_;refine o_v rfl (a3f m0 he rfl hl) ?_;refine go 1 ?_;refine cV (c9m _ f _ hr 60 oM oM) ?_;refine gS 2 6 (fun h6 p6=>?_) fun h6 p6=>?_
 ·refine a0A (a0q rfl rfl h6 (a0t rfl (a3f m0 he rfl hl) ?_));refine go 1 ?_;refine a0q rfl rfl h6 (a0v (c9n _ f _ hr) rfl rfl ?_);refine go 6 ?_;exact q_v (congrArg Value.bool (by simp only[a2C,h6,bS]))
 ·refine go 8 ?_;exact q_v (congrArg Value.bool (by simp only[a2C,h6,bS]))
theorem c1d (I:IMap) (a b:Int) (ha : -(1000000000000:Int)≤a∧a≤(1000000000000:Int)) :
    FnV prog 381 #[.int .i64 (a),.int .i64 (b)] I (.int .i64 (a3J a b)):=by
 refine enter func381 call381 rfl ntmps381 rfl fun w0=>?_;refine gC 12 (fun h7 p7=>?_) fun h7 p7=>?_
 ·refine go 8 ?_;exact q_v (congrArg (Value.int .i64) (c9k p7).symm)
 ·have htd:=d1i (a:=a) (b:=b);refine go 6 ?_;refine o_v rfl (d6q rfl rfl p7 ⟨oM,oM⟩) ?_;refine go 5 ?_;refine a1N (I':=I) (L':=[(5,.int .i64 (a.tdiv b)),(22,.bool (a9B a b))]) (H':=[]) ?_ ?_
  ·refine go 3 ?_;refine o_v rfl (b4M rfl rfl ⟨oM,oM⟩) ?_;refine gS 3 16 (fun h16 p16=>?_) fun h16 p16=>?_
   ·refine go 4 ?_;refine a0A (a0q rfl rfl h16 (a0t rfl (c3t he rfl rfl) ?_));refine go 3 ?_;exact a0o ⟨rfl,(bB (by simp only[a9B,h7,h16,bS])),trivial⟩ rfl rfl
   ·refine go 8 ?_;exact a0o ⟨rfl,(bB (by simp only[a9B,h7,h16,bS])),trivial⟩ rfl rfl
  ·refine gC 0 (fun h22 p22=>?_) fun h22 p22=>?_
   ·refine go 14 ?_;exact q_v (congrArg (Value.int .i64) (c9j p7 h22))
   ·refine go 10 ?_;exact q_v (congrArg (Value.int .i64) (c9i p7 h22))
theorem b6R (I:IMap) (a:Ivl) (ha:a2l a=true) (low high:Int) (g2 g5:Nat) (A0:Option Addr) (k0:Nat) (l:List Ivl) (hl:l.length≤1000) :
    FnH prog 380 #[.int .i64 (low),.int .i64 (high),.pointer (some ⟨g2,0,none⟩),.pointer (some ⟨g5,0,none⟩)] I [.blk g2 81 a.cells,.blk g5 236 [.slice A0 l.length k0],.row (.slice A0 l.length k0) 81 2 (l).length (c3N (l))] (fun u _ H2=>u = .tuple #[]∧∃A k,H2=[.blk g2 81 a.cells,.blk g5 236 [.slice A (l++a2A a low high).length k],.row (.slice A (l++a2A a low high).length k) 81 2 (l++a2A a low high).length (c3N (l++a2A a low high))]):=by
 refine enter func380 call380 rfl ntmps380 rfl fun w0=>?_;refine gC 7 (fun h12 p12=>?_) fun h12 p12=>?_
 ·have hsg:a2A a low high=[a8N a low,a8N a high]:=if_pos p12;refine go 6 fun v15=>?_
  refine a0i (l:=[low,high]) rfl rfl ((.cons rfl (.one rfl))) fun I15 j15 R15=>?_;obtain⟨A15,c15,rfl,hA15,_,_⟩:=R15;refine go 5 ?_
  refine a3k ((0:Nat)) (A0) (k0) (fun i A1 k1=>I15)
   (fun i A1 k1=>[(2,.pointer (some ⟨g2,0,none⟩)),(3,.pointer (some ⟨g5,0,none⟩)),(15,.slice A15 [low,high].length c15),(16,.int .i64 ([low,high].length:Int)),(17,.int .i64 ((i:Nat):Int))])
   (fun i A1 k1=>[.blk g2 81 a.cells,.blk g5 236 [.slice A1 (l++[a8N a low,a8N a high].take i).length k1],.row (.slice A1 (l++[a8N a low,a8N a high].take i).length k1) 81 2 (l++[a8N a low,a8N a high].take i).length (c3N (l++[a8N a low,a8N a high].take i))])
   (fun i A1 k1=>i≤2)
   (fun i A1 k1=>2-i) oM rfl sb (by simp) ?_
  intro i A1 k1 hi;refine gC 6 (fun h18 p18=>?_) fun h18 p18=>?_
  ·have hlt:i<2:=by simp at p18;omega
   have hai:=a0R.1 ha;obtain⟨d,hd⟩:∃d,[low,high][i]=d:=⟨_,rfl⟩
   have hst:[a8N a low,a8N a high].take (i+1)=[a8N a low,a8N a high].take i++[a8N a d]:=by
     have h2:i=0∨i=1:=oM
     rcases h2 with rfl|rfl<;>(simp at hd;subst hd;rfl)
   refine go 6 ?_;obtain⟨b19,o19,w19,e19,c19,r19⟩:=RdA.at_ hA15 (i:=i) oM;obtain rfl:=r19;refine go 1 ?_;refine o_v rfl (OV.cast (u:=.int .i64 (d)) (a0H he rfl (c19 0 _ rfl)) (congrArg (Value.int .i64) hd)) ?_;refine go 5 ?_;refine dG 0 3 ?_;refine dG 4 3 ?_;refine dH 3 0 ?_;refine cV (c1d _ a.low d oM) ?_;refine dH 7 0 ?_;refine cV (c1d _ a.high d oM) ?_;refine dG 8 2 ?_;refine go 6 ?_;refine o_v rfl (OV.cast (u:=.int .i64 (min (a3J a.low d) (a3J a.high d))) (a8u rfl rfl) (congrArg (Value.int .i64) oM)) ?_;refine go 2 ?_;refine o_v rfl (OV.cast (u:=.int .i64 (max (a3J a.low d) (a3J a.high d))) (a5s rfl rfl) (congrArg (Value.int .i64) oM)) ?_;refine go 3 fun v37=>?_
   refine go 1 ?_;refine a0u ?_;refine a0z he he rfl rfl rfl rfl rfl (by simp;omega) (by simp;omega) rfl fun v38=>?_;refine a0J fun A38 c38 hv38=>?_;subst hv38;refine go 1 ?_;refine a0u ?_;refine go 9 ?_;refine a0d ?_;refine a0a ?_;refine a0b ?_;refine a0b ?_;refine a0d ?_;exact a1P (i+1) (A38) (c38) oM oM rfl sb (by rw[hst];simp[c5a,c5b];exact⟨oM,rfl⟩)
  ·refine go 5 ?_;have e:i=2:=(by simp at p18;omega);subst e;exact a3g (fun _ m=>m) ⟨rfl,A1,k1,by rw[hsg];rfl⟩
 ·have hsg:a2A a low high=[]:=if_neg p12;refine go 2 ?_;exact a3g (fun _ m=>m) ⟨rfl,A0,k0,by rw[hsg,List.append_nil]⟩
theorem c4S (I:IMap) (a b:Ivl) (ha:a2l a=true) (hb:a2l b=true) :
    FnV prog 376 #[.agg a.cells.toArray,.agg b.cells.toArray] I (.agg (d1C a b).cells.toArray):=by
 obtain⟨q0,hq0⟩:∃q0,(if b.low≤0∧b.high≥0 then [a8V] else [])=q0:=⟨_,rfl⟩;have hQ:a4c a b=q0++a2A a (max b.low 1) b.high++a2A a b.low (min b.high (-1)):=by rw[←hq0];rfl
 have hl0:q0.length≤1:=by rw[←hq0];split<;>simp
 have hs1:=b1G a (max b.low 1) b.high;have hqn:0<(a4c a b).length:=List.length_pos_iff.2 (c6b (a0R.1 hb).2.1)
 have hql:(a4c a b).length≤5:=by
   rw[hQ]
   simp only[List.length_append]
   have:=b1G a b.low (min b.high (-1))
   omega
 refine enter func376 call376 rfl ntmps376 rfl fun w0=>?_;refine go 4 fun g2=>?_
 refine go 2 fun g3=>?_
 refine go 2 fun g4=>?_
 refine go 6 fun g5=>?_
 refine go 3 ?_;refine a6z (Ix:=(fun A k=>I)) (Lx:=(fun A k=>[(2,.pointer (some ⟨g2,0,none⟩)),(3,.pointer (some ⟨g3,0,none⟩)),(4,.pointer (some ⟨g4,0,none⟩)),(5,.pointer (some ⟨g5,0,none⟩))])) (Hx:=(fun A k=>[.blk g2 81 a.cells,.blk g5 236 [.slice A q0.length k],.row (.slice A q0.length k) 81 2 (q0).length (c3N (q0)),.blk g3 81 b.cells,.blk g4 81 [.int .i64 (0),.int .i64 (0)]])) (p:=(fun A k=>True)) ?_ ?_
 ·refine go 1 ?_;refine a1N (I':=I) (L':=[(2,.pointer (some ⟨g2,0,none⟩)),(3,.pointer (some ⟨g3,0,none⟩)),(4,.pointer (some ⟨g4,0,none⟩)),(5,.pointer (some ⟨g5,0,none⟩)),(17,.bool (decide (b.low≤0)&&decide (b.high≥0)))]) (H':=[.blk g5 236 [.slice none 0 0],.blk g4 81 [.int .i64 (0),.int .i64 (0)],.blk g3 81 b.cells,.blk g2 81 a.cells]) ?_ ?_
  ·refine gS 5 13 (fun h13 p13=>?_) fun h13 p13=>?_
   ·refine go 6 ?_;exact a0o ⟨rfl,rfl,rfl,rfl,(bB (by simp only[h13,bS])),trivial⟩ rfl rfl
   ·refine go 6 ?_;exact a0o ⟨rfl,rfl,rfl,rfl,(bB (by simp only[h13,bS])),trivial⟩ rfl rfl
  ·refine gC 0 (fun h17 p17=>?_) fun h17 p17=>?_
   ·have hq1:q0=[a8V]:=by rw[←hq0,if_pos p17]
    refine go 1 ?_;refine a0G 81 2 ?_;refine go 4 fun v20=>?_
    refine go 1 ?_;refine a0b ?_;refine a0z he he rfl rfl rfl rfl rfl (by simp) (by simp) rfl fun v21=>?_;refine a0J fun A21 c21 hv21=>?_;subst hv21;refine go 1 ?_;refine a0d ?_;refine go 3 ?_;refine a0d ?_;refine a0a ?_;refine a0d ?_;refine a0u ?_;refine a0u ?_;refine a0u ?_;refine a1A ?_;exact a1U (A21) (c21) trivial sb (by rw[hq1];rfl) rfl
   ·have hq1:q0=[]:=by rw[←hq0,if_neg (by simpa using h17)]
    refine a0G 81 2 ?_;refine go 2 ?_;refine a0d ?_;refine a0u ?_;refine a0d ?_;refine a0u ?_;refine a1A ?_;exact a1U (none) (0) trivial sb (by rw[hq1];rfl) rfl
 ·intro A k _;refine go 11 ?_;refine o_v rfl (OV.cast (u:=.int .i64 (max b.low 1)) (a5s rfl rfl) (congrArg (Value.int .i64) oM)) ?_;refine go 3 ?_;refine a0d ?_;refine a0d ?_;refine a0d ?_;refine b7t (b6R _ a ha (max b.low 1) b.high g2 g5 _ _ (q0) (by first|omega|(simp only[List.length_append];omega))) rfl rfl fun u29 I29 H29 j29 q29=>?_;obtain⟨rfl,A29,k29,rfl⟩:=q29;refine b7X ?_;refine go 9 ?_;refine o_v rfl (OV.cast (u:=.int .i64 (min b.high (-1))) (a8u rfl rfl) (congrArg (Value.int .i64) oM)) ?_;refine go 1 ?_;refine a0d ?_;refine a0d ?_;refine a0d ?_;refine b7t (b6R _ a ha b.low (min b.high (-1)) g2 g5 _ _ (q0++a2A a (max b.low 1) b.high) (by first|omega|(simp only[List.length_append];omega))) rfl rfl fun u36 I36 H36 j36 q36=>?_;obtain⟨rfl,A36,k36,rfl⟩:=q36;refine b7X ?_;rw[←hQ];refine a0d ?_;refine a0i (l:=a4c a b) rfl rfl (b3P _) fun I37 j37 R37=>?_;have hA37:=R37.rda;refine go 5 ?_;obtain⟨b38,o38,w38,e38,c38,r38⟩:=RdA.at_ hA37 (i:=0) hqn;obtain rfl:=r38;refine o_v rfl (a0m he rfl rfl e38 (0) rfl hqn) ?_;refine go 3 fun g7=>?_
  refine go 13 ?_;refine a0b ?_;refine a0a ?_;refine a0b ?_;refine a0a ?_;refine a0b ?_;refine a0a ?_
  refine a0L ((0:Nat)) ((a4c a b)[0]) (fun i z=>I37)
   (fun i z=>[(4,.pointer (some ⟨g4,0,none⟩)),(7,.pointer (some ⟨g7,0,none⟩)),(40,.slice A36 (a4c a b).length k36),(41,.int .i64 ((a4c a b).length:Int)),(42,.int .i64 ((i:Nat):Int))])
   (fun i z=>[.blk g7 81 z.cells,.blk g4 81 [.int .i64 (0),.int .i64 (0)]])
   (fun i z=>i≤(a4c a b).length∧((a4c a b).take i).foldl a4v (a4c a b)[0]=z)
   (fun i z=>(a4c a b).length-i) ⟨Nat.zero_le _,rfl⟩ rfl sb rfl ?_
  intro i z ⟨hi,hz⟩;refine gC 6 (fun h43 p43=>?_) fun h43 p43=>?_
  ·have hlt:i<(a4c a b).length:=oM;refine go 6 ?_;obtain⟨b44,o44,w44,e44,c44,r44⟩:=RdA.at_ hA37 (i:=i) oM;obtain rfl:=r44;refine go 4 fun g9=>?_
   refine go 8 ?_;refine cV (c7D _ z (a4c a b)[i]) ?_;refine go 1 ?_;refine a0b ?_;refine go 9 ?_;refine a0b ?_;refine a0a ?_;exact a0n (i+1) (_) ⟨oM,by rw[b8D hlt,hz]⟩ oM rfl sb rfl
  ·refine go 9 ?_;refine a0b ?_;refine go 5 ?_;have e:i=(a4c a b).length:=oM;subst e;rw[List.take_length]at hz
   exact a8p (by rw[←hz,d2n hqn])
theorem d0C (I:IMap) (u:Use) (op:Int) (a b:Ivl) (ha:a2l a=true) (hb:a2l b=true) :
    FnV prog 370 #[.agg u.cells.toArray,.int .i64 (op),.agg a.cells.toArray,.agg b.cells.toArray] I (.agg (a5y op a b).cells.toArray):=by
 refine enter func370 call370 rfl ntmps370 rfl fun w0=>?_;refine go 4 fun g4=>?_
 refine go 2 fun g6=>?_
 refine go 2 fun g7=>?_
 refine go 2 fun g8=>?_
 refine gC 15 (fun h10 p10=>?_) fun h10 p10=>?_
 ·refine go 5 ?_;refine cV (a1S _ a b) ?_;refine go 8 ?_;exact q_v (by unfold a5y;repeat (first|rw[if_pos (by assumption)] | rw[if_neg (by assumption)] | rfl))
 ·refine gC 6 (fun h15 p15=>?_) fun h15 p15=>?_
  ·refine go 5 ?_;refine cV (d5H _ a b) ?_;refine go 8 ?_;exact q_v (by unfold a5y;repeat (first|rw[if_pos (by assumption)] | rw[if_neg (by assumption)] | rfl))
  ·refine gC 6 (fun h20 p20=>?_) fun h20 p20=>?_
   ·refine go 5 ?_;refine cV (d5G _ a b) ?_;refine go 8 ?_;exact q_v (by unfold a5y;repeat (first|rw[if_pos (by assumption)] | rw[if_neg (by assumption)] | rfl))
   ·refine gC 6 (fun h25 p25=>?_) fun h25 p25=>?_
    ·refine go 6 ?_;refine o_v rfl (OV.cast (u:=.int .i64 (min a.low b.low)) (a8u rfl rfl) (congrArg (Value.int .i64) oM)) ?_;refine go 4 ?_;refine o_v rfl (OV.cast (u:=.int .i64 (min a.high b.high)) (a8u rfl rfl) (congrArg (Value.int .i64) oM)) ?_;refine go 9 ?_;exact q_v (by unfold a5y;repeat (first|rw[if_pos (by assumption)] | rw[if_neg (by assumption)] | rfl))
    ·refine gC 6 (fun h38 p38=>?_) fun h38 p38=>?_
     ·refine go 6 ?_;refine o_v rfl (OV.cast (u:=.int .i64 (max a.low b.low)) (a5s rfl rfl) (congrArg (Value.int .i64) oM)) ?_;refine go 4 ?_;refine o_v rfl (OV.cast (u:=.int .i64 (max a.high b.high)) (a5s rfl rfl) (congrArg (Value.int .i64) oM)) ?_;refine go 9 ?_;exact q_v (by unfold a5y;repeat (first|rw[if_pos (by assumption)] | rw[if_neg (by assumption)] | rfl))
     ·refine go 8 ?_;refine cV (c4S _ a b ha hb) ?_;refine go 6 ?_;exact q_v (by unfold a5y;repeat (first|rw[if_pos (by assumption)] | rw[if_neg (by assumption)] | rfl))
theorem c6m (I:IMap) (u:Use) (a b c:Ivl) :
    FnV prog 371 #[.agg u.cells.toArray,.agg a.cells.toArray,.agg b.cells.toArray,.agg c.cells.toArray] I (.agg (a6A a b c).cells.toArray):=by
 refine enter func371 call371 rfl ntmps371 rfl fun w0=>?_;refine go 4 fun g4=>?_
 refine go 2 fun g5=>?_
 refine go 2 fun g6=>?_
 refine go 2 fun g7=>?_
 refine go 2 fun g8=>?_
 refine go 7 ?_;refine cV (c7E _ a 0) ?_;refine gC 9 (fun h11 p11=>?_) fun h11 p11=>?_
 ·refine go 11 ?_;exact q_v (by unfold a6A;repeat (first|rw[if_pos (by assumption)] | rw[if_neg (by assumption)] | rfl))
 ·refine gC 6 (fun h14 p14=>?_) fun h14 p14=>?_
  ·refine go 11 ?_;exact q_v (by unfold a6A;repeat (first|rw[if_pos (by assumption)] | rw[if_neg (by assumption)] | rfl))
  ·refine go 8 ?_;refine cV (c7D _ b c) ?_;refine go 6 ?_;exact q_v (by unfold a6A;repeat (first|rw[if_pos (by assumption)] | rw[if_neg (by assumption)] | rfl))
theorem c6n (I:IMap) (u:Use) (op:Int) :
    FnV prog 372 #[.agg u.cells.toArray,.int .i64 (op)] I (.agg (a6E u op).cells.toArray):=by
 refine enter func372 call372 rfl ntmps372 rfl fun w0=>?_;refine go 4 fun g2=>?_
 refine go 2 fun g4=>?_
 refine gC 15 (fun h6 p6=>?_) fun h6 p6=>?_
 ·refine go 4 ?_;refine o_v rfl (a1L (u.km.cells) m1 he rfl rfl rfl) ?_;refine go 8 ?_;exact q_v (by unfold a6E;repeat (first|rw[if_pos (by assumption)] | rw[if_neg (by assumption)] | rfl))
 ·refine gC 6 (fun h11 p11=>?_) fun h11 p11=>?_
  ·refine go 4 ?_;refine o_v rfl (a1L (u.cycles.cells) m1 he rfl rfl rfl) ?_;refine go 8 ?_;exact q_v (by unfold a6E;repeat (first|rw[if_pos (by assumption)] | rw[if_neg (by assumption)] | rfl))
  ·refine go 7 ?_;refine o_v rfl (a1L (u.load.cells) m1 he rfl rfl rfl) ?_;refine go 6 ?_;exact q_v (by unfold a6E;repeat (first|rw[if_pos (by assumption)] | rw[if_neg (by assumption)] | rfl))
theorem c6o (I:IMap) (u:Use) (n:Int) :
    FnV prog 373 #[.agg u.cells.toArray,.int .i64 (n)] I (.agg #[.int .i64 (n),.int .i64 (n)]):=by
 refine enter func373 call373 rfl ntmps373 rfl fun w0=>?_;refine go 4 fun g2=>?_
 refine go 2 fun g4=>?_
 refine go 13 ?_;exact q_v rfl
theorem b8C (I:IMap) (u:Use) (hu:a8g u=true) (N:Nat) (ih:∀(f:Fm),cntN f≤N→∀vs,FmRd I vs f→rightF f=true→FnV prog 135 #[.iface 239 (.agg u.cells.toArray),.agg vs.toArray] I (.agg (a2B u f).cells.toArray)) (f:Fm) (hN:cntN f≤N+1) (vs:List Value) (hr:FmRd I vs f) (hR:rightF f=true) :
    FnV prog 135 #[.iface 239 (.agg u.cells.toArray),.agg vs.toArray] I (.agg (a2B u f).cells.toArray):=by
 obtain⟨s,rfl,hs⟩:=a2b hr;obtain⟨A,c0,rfl,hA,hc,hm⟩:=hs;refine enter func135 call135 rfl ntmps135 rfl fun w0=>?_;refine go 4 fun g3=>?_
 refine go 2 fun g4=>?_
 refine gC 12 (fun h5 p5=>?_) fun h5 p5=>?_
 ·refine go 6 ?_;refine b7u he (c6o _ u f.n) rfl rfl rfl ?_;refine go 8 ?_;exact q_v (by rw[c6I hR p5];rfl)
 ·refine gC 8 (fun h13 p13=>?_) fun h13 p13=>?_
  ·refine go 6 ?_;refine b7u he (c6n _ u f.op) rfl rfl rfl ?_;refine go 8 ?_;exact q_v (by rw[b6n hR p5 p13])
  ·refine gC 8 (fun h21 p21=>?_) fun h21 p21=>?_
   ·have h3:=d5K hR p21;refine go 1 ?_;refine ds1 ?_;refine dG 0 4 ?_;obtain⟨b29,o29,w29,e29,c29,r29⟩:=RdA.at_ hA (i:=0) oM;replace r29:=a2b r29;obtain⟨s29,rfl,hs29⟩:=r29;refine a0I 4 rfl rfl (by kernel_rfl) rfl (.cons _ (.refl _)) rfl (a0m he rfl rfl e29 (0) rfl oM) ?_;refine dG 5 1 ?_;refine dG 7 3 ?_;obtain⟨b35,o35,w35,e35,c35,r35⟩:=RdA.at_ hA (i:=1) oM;replace r35:=a2b r35;obtain⟨s35,rfl,hs35⟩:=r35;refine a0I 10 rfl rfl (by kernel_rfl) rfl (.cons _ (.refl _)) rfl (a0m he rfl rfl e35 (1) rfl oM) ?_;refine dG 11 1 ?_;refine dG 13 3 ?_;obtain⟨b41,o41,w41,e41,c41,r41⟩:=RdA.at_ hA (i:=2) oM;replace r41:=a2b r41;obtain⟨s41,rfl,hs41⟩:=r41;refine a0I 16 rfl rfl (by kernel_rfl) rfl (.cons _ (.refl _)) rfl (a0m he rfl rfl e41 (2) rfl oM) ?_;refine dG 17 1 ?_;refine dG 19 1 ?_;refine a0I 20 rfl rfl (by kernel_rfl) rfl (.cons _ (.refl _)) rfl (b4N he rfl) ?_;refine dG 21 1 ?_;refine dH 6 0 ?_;refine cV (ih (f.kids[0]'oM) (by have:=a4H (List.getElem_mem (show 0<f.kids.length from oM));omega) _ (a3O hs29) (a4o hR 0 _)) ?_;refine dH 12 0 ?_;refine cV (ih (f.kids[1]'oM) (by have:=a4H (List.getElem_mem (show 1<f.kids.length from oM));omega) _ (a3O hs35) (a4o hR 1 _)) ?_;refine dH 18 0 ?_;refine cV (ih (f.kids[2]'oM) (by have:=a4H (List.getElem_mem (show 2<f.kids.length from oM));omega) _ (a3O hs41) (a4o hR 2 _)) ?_;refine dH 22 0 ?_;refine b7u he (c6m _ u _ _ _) rfl rfl rfl ?_;refine dH 23 0 ?_;refine go 8 ?_;exact q_v (by rw[d0Z h3])
   ·have h2:=d5J hR p21 p13;refine go 4 ?_;refine ds1 ?_;refine dG 0 6 ?_;obtain⟨b54,o54,w54,e54,c54,r54⟩:=RdA.at_ hA (i:=0) oM;replace r54:=a2b r54;obtain⟨s54,rfl,hs54⟩:=r54;refine a0I 6 rfl rfl (by kernel_rfl) rfl (.cons _ (.refl _)) rfl (a0m he rfl rfl e54 (0) rfl oM) ?_;refine dG 7 1 ?_;refine dG 9 3 ?_;obtain⟨b60,o60,w60,e60,c60,r60⟩:=RdA.at_ hA (i:=1) oM;replace r60:=a2b r60;obtain⟨s60,rfl,hs60⟩:=r60;refine a0I 12 rfl rfl (by kernel_rfl) rfl (.cons _ (.refl _)) rfl (a0m he rfl rfl e60 (1) rfl oM) ?_;refine dG 13 1 ?_;refine dG 15 1 ?_;refine a0I 16 rfl rfl (by kernel_rfl) rfl (.cons _ (.refl _)) rfl (b4N he rfl) ?_;refine dG 17 1 ?_;refine dH 8 0 ?_;refine cV (ih (f.kids[0]'oM) (by have:=a4H (List.getElem_mem (show 0<f.kids.length from oM));omega) _ (a3O hs54) (a4o hR 0 _)) ?_;refine dH 14 0 ?_;refine cV (ih (f.kids[1]'oM) (by have:=a4H (List.getElem_mem (show 1<f.kids.length from oM));omega) _ (a3O hs60) (a4o hR 1 _)) ?_;refine dH 18 0 ?_;refine b7u he (d0C _ u _ _ _ (a6I hu _ (a4o hR 0 oM)) (a6I hu _ (a4o hR 1 oM))) rfl rfl rfl ?_;refine dH 19 0 ?_;refine go 6 ?_;exact q_v (by rw[c6J h2])
theorem d5C (I:IMap) (u:Use) (hu:a8g u=true) (f:Fm) (vs:List Value) (hr:FmRd I vs f) (hR:rightF f=true):FnV prog 135 #[.iface 239 (.agg u.cells.toArray),.agg vs.toArray] I (.agg (a2B u f).cells.toArray):=by
 have key:∀(N:Nat) (f:Fm),cntN f≤N→∀vs,FmRd I vs f→rightF f=true→FnV prog 135 #[.iface 239 (.agg u.cells.toArray),.agg vs.toArray] I (.agg (a2B u f).cells.toArray):=by
  intro N
  induction N with
  |zero=>intro f hN;exact absurd hN (by cases f;simp[cntN])
  |succ N ih=>intro f hN vs hr hR;exact b8C I u hu N ih f hN vs hr hR
 exact key (cntN f) f (Nat.le_refl _) vs hr hR
theorem c4R (I:IMap) (f:Fm) (vs:List Value) (hr:FmRd I vs f) (u:Use) :
    FnV prog 58 #[.agg vs.toArray,.agg u.cells.toArray] I (.agg (b1Y f u).cells.toArray):=by
 obtain⟨s,rfl,hs⟩:=a2b hr;obtain⟨A,c0,rfl,hA,hc,hm⟩:=hs;refine enter func58 call58 rfl ntmps58 rfl fun w0=>?_;refine go 4 fun g2=>?_
 refine go 2 fun g3=>?_
 refine go 2 fun g4=>?_
 refine go 6 ?_;refine o_v rfl (a1L (u.km.cells) m1 he rfl rfl rfl) ?_;refine go 1 ?_;refine o_v rfl (a1L (u.cycles.cells) m1 he rfl rfl rfl) ?_;refine go 1 ?_;refine o_v rfl (a1L (u.load.cells) m1 he rfl rfl rfl) ?_;refine go 2 fun v14=>?_
 refine a0i (l:=[u.km,u.cycles,u.load]) rfl rfl ((b3P [u.km,u.cycles,u.load])) fun I14 j14 R14=>?_;have hr:=hr.le j14;obtain⟨A14,c14,rfl,hA14,_,_⟩:=R14;refine go 5 ?_;refine a0b ?_;refine a0d ?_
 refine a0x (α:=Nat) 0 (fun i=>I14)
  (fun i=>[(2,.pointer (some ⟨g2,0,none⟩)),(3,.pointer (some ⟨g3,0,none⟩)),(4,.pointer (some ⟨g4,0,none⟩)),(14,.slice A14 [u.km,u.cycles,u.load].length c14),(15,.int .i64 ([u.km,u.cycles,u.load].length:Int)),(16,.int .i64 ((i:Nat):Int))])
  (fun i=>[.blk g2 27 [ci f.op,ci f.n,.slice A f.kids.length c0],.blk g3 128 u.cells,.blk g4 81 [.int .i64 (0),.int .i64 (0)]])
  (fun i=>i≤3∧a3A (fun _ q=>a8f q) [u.km,u.cycles,u.load] i=true)
  (fun i=>3-i) ⟨oM,rfl⟩ rfl sb rfl ?_
 intro i ⟨hi,hn⟩;refine gC 6 (fun h17 p17=>?_) fun h17 p17=>?_
 ·have hlt:i<3:=by simp at p17;omega
  refine go 6 ?_;obtain⟨b18,o18,w18,e18,c18,r18⟩:=RdA.at_ hA14 (i:=i) oM;obtain rfl:=r18;refine go 4 fun g6=>?_
  refine go 5 ?_;refine a1N (I':=I14) (L':=[(2,.pointer (some ⟨g2,0,none⟩)),(3,.pointer (some ⟨g3,0,none⟩)),(4,.pointer (some ⟨g4,0,none⟩)),(14,.slice A14 [u.km,u.cycles,u.load].length c14),(15,.int .i64 ([u.km,u.cycles,u.load].length:Int)),(16,.int .i64 ((i:Nat):Int)),(6,.pointer (some ⟨g6,0,none⟩)),(34,.bool (!a8f [u.km,u.cycles,u.load][i]))]) (H':=[.blk g6 81 [u.km,u.cycles,u.load][i].cells,.blk g2 27 [ci f.op,ci f.n,.slice A f.kids.length c0],.blk g3 128 u.cells,.blk g4 81 [.int .i64 (0),.int .i64 (0)]]) ?_ ?_
  ·refine gS 5 23 (fun h23 p23=>?_) fun h23 p23=>?_
   ·refine go 13 ?_;exact a0o ⟨rfl,rfl,rfl,rfl,rfl,rfl,rfl,(bB (by simp only[a8f,Bool.not_not,h17,h23,bS])),trivial⟩ rfl rfl
   ·refine gS 7 30 (fun h30 p30=>?_) fun h30 p30=>?_
    ·refine go 6 ?_;exact a0o ⟨rfl,rfl,rfl,rfl,rfl,rfl,rfl,(bB (by simp only[a8f,Bool.not_not,h17,h23,h30,bS])),trivial⟩ rfl rfl
    ·refine go 6 ?_;exact a0o ⟨rfl,rfl,rfl,rfl,rfl,rfl,rfl,(bB (by simp only[a8f,Bool.not_not,h17,h23,h30,bS])),trivial⟩ rfl rfl
  ·refine gC 0 (fun h34 p34=>?_) fun h34 p34=>?_
   ·refine go 4 ?_;refine a0u ?_;refine go 10 ?_;exact a8p (by rw[d2l (d4j hlt (by simpa using h34))];rfl)
   ·refine go 8 ?_;refine a0a ?_;exact a0w (i+1) ⟨oM,a1l (f:=fun _ q=>a8f q) hn (show i<[u.km,u.cycles,u.load].length from hlt) (by simpa using h34)⟩ oM rfl sb rfl
 ·have e:i=3:=(by simp at p17;omega);subst e;have hu:a8g u=true:=d1o hn;refine go 10 ?_;refine cV (c1e _ f _ hr) ?_;refine gC 3 (fun h39 p39=>?_) fun h39 p39=>?_
  ·refine go 4 ?_;refine a0d ?_;refine go 6 ?_;exact a8p (by rw[c8N hu (by simpa using h39)];rfl)
  ·have hv:a2C f=true:=by simpa using h39
   refine go 6 ?_;refine o_v rfl (d1r T.stk_239 rfl) ?_;refine go 2 ?_;refine cV (d5C _ u hu f _ hr (by simp only[a2C,Bool.and_eq_true]at hv;exact hv.2)) ?_;refine go 2 fun g7=>?_
   refine go 8 ?_;refine o_v rfl (OV.cast (u:=.int .i64 (max 0 (a2B u f).low)) (a5s rfl rfl) (congrArg (Value.int .i64) oM)) ?_;refine go 2 ?_;refine o_v rfl (OV.cast (u:=.int .i64 (max 0 (a2B u f).high)) (a5s rfl rfl) (congrArg (Value.int .i64) oM)) ?_;refine go 2 ?_;refine a0u ?_;refine go 5 ?_;exact a8p (by rw[c8O hu hv];rfl)
end Go.Proofs.YtgmkjpafapgccaaGreat
namespace Go.Proofs.YtgmkjpafapgccaaGreat
open Go Go.Sx Tryz
set_option linter.all false
set_option maxRecDepth 20000
set_option maxHeartbeats 4000000
instance:Has (a1g prog 29 0) (0,true,1):=hk
instance:Has (a1g prog 29 1) (1,true,3):=hk
instance:Has (prog.underlying 168) (.map 9 9):=hk
theorem a8I (I:IMap) (v:Value) (l:List Part) (hv:RdS I v l) (s:ByteArray) (hN:b1j l≤12) :
    FnX prog 25 #[.agg #[v],.string s] I [] (fun u r=>∃ns,r = .row u 9 1 ns.length (a1q ns).flatten∧(∀n,n∈ns↔a8W l s n)∧ns.length≤12∧ns.Nodup):=by
 have hv0:=hv;obtain⟨A,c0,rfl,hA,hc,hm⟩:=hv;refine enter func25 call25 rfl ntmps25 rfl fun w0=>?_;refine go 4 fun g2=>?_
 refine go 7 ?_;refine a1F (d4L _ _ l hv0) rfl rfl fun v20 s20 q20=>?_;obtain⟨m20,kvs,rfl,rfl,hIx,hnd⟩:=q20;obtain⟨z,b,hz,hb,hfs,hfn⟩:=hIx.look s;refine go 2 fun g5=>?_
 refine go 10 ?_;refine o_v rfl (a8t m1 (a0y he) he he (s) rfl rfl hz hb) ?_;refine gC 13 (fun h29 p29=>?_) fun h29 p29=>?_
 ·refine go 8 ?_;refine a0a ?_;refine a0a ?_;refine a0a ?_;refine a0G 9 1 ?_;exact q_x ⟨[],rfl,fun n=>⟨fun h=>(by cases h),fun h=>absurd h (c9U (hfn (by simpa using h29)) n)⟩,Nat.zero_le _,List.nodup_nil⟩
 ·have hsome:(a0f l s).isSome=true:=by
    obtain⟨i,hi,_,hF⟩:=hfs (by simpa using h29);rw[hF];rfl
  refine go 5 ?_;refine a4W (Value.string) he rfl fun r30=>?_;refine go 7 ?_;refine a0d ?_;refine a4e fun S0 hO0 hT0 hS0=>?_;refine go 2 ?_;refine b2A hS0 he rfl rfl fun i33=>?_;refine go 3 ?_;refine a1A ?_;refine a0a ?_
  refine a3k (S0) (kvs) ([]) (fun S todo done=>I)
   (fun S todo done=>[(1,.string s),(5,.pointer (some ⟨g5,0,none⟩)),(8,.map (some r30)),(33,.pointer (some ⟨i33,0,none⟩))])
   (fun S todo done=>[.any i33 (S.it m20),.any m20 S.mp,.mp r30 (a1u Value.string (a2T (a3Z l (done.map Prod.fst)))),.blk g5 165 [.slice A l.length c0,.map (some m20)]])
   (fun S todo done=>S.Ok Value.string kvs∧S.Todo Value.string todo∧(done++todo).Perm kvs)
   (fun S todo done=>todo.length) ⟨hO0,hT0,.refl _⟩ rfl sb rfl ?_
  intro S todo done ⟨hO,hT,hP⟩;refine go 3 ?_;refine a0b ?_;refine a0b ?_;refine b7w hO hT rfl rfl fun q34 S34 t34 hst=>?_;refine o_v rfl (a2c rfl (a7U _ _)) ?_;refine gC 3 (fun h35 p35=>?_) fun h35 p35=>?_
  ·obtain⟨p,a,b,htd,hO1,hT1,hA1,rfl,rfl⟩:=hst.some h35;have hpk:=c5M hP htd;have hpn:=c5N hP htd hnd;obtain⟨i,hi,hpv,hF⟩:=hIx.mem hnd hpk;have hup:upP l p.1=l[i].into:=by unfold upP;rw[hF];rfl
   refine go 5 ?_;refine o_v rfl (b2R m0 m1 hO1 hA1 rfl) ?_;refine go 1 ?_;refine o_v rfl (OV.cast (u:=.int .i64 ((i:Nat):Int)) (a2c rfl rfl) hpv) ?_;refine go 9 ?_;obtain⟨b42,o42,w42,e42,c42,r42⟩:=RdA.at_ hA (i:=i) hi;obtain⟨q42,rfl,B42,d42,rfl,hB42,hd42,hm42⟩:=r42;refine o_v rfl (a0m he rfl rfl e42 (i) rfl hi) ?_;refine go 1 ?_;refine o_v rfl (OV.cast (u:=.string (upP l p.1)) (a0H he rfl (c42 2 _ rfl)) (congrArg Value.string hup.symm)) ?_;refine gC 9 (fun h46 p46=>?_) fun h46 p46=>?_
   ·refine go 5 ?_;refine a0d ?_;refine a2i (a2T ((a3Z l (done.map Prod.fst))++[(p.1,upP l p.1)])) (a0y he) he (p.1) rfl rfl rfl (c0O (c4I hpn)) ?_;refine go 3 ?_;refine a0u ?_;refine a0b ?_;refine a0u ?_;refine a0u ?_;exact a1P (S34) (a++b) (done++[p]) ⟨hO1,hT1,a4n hP htd⟩ (by rw[htd];simp) rfl sb (by rw[c1b p46])
   ·refine go 3 ?_;exact a1P (S34) (a++b) (done++[p]) ⟨hO1,hT1,a4n hP htd⟩ (by rw[htd];simp) rfl sb (by rw[c1a (by simpa using h46)])
  ·obtain⟨rfl,rfl,rfl⟩:=hst.none h35;have hdp:done.Perm kvs:=by simpa using hP
   refine go 10 ?_;refine a0d ?_;refine b7v (a0y he) he s rfl rfl ?_;rw[b3x (c9c hnd hdp)];have hB0:=Bfs.start (v:=s) hIx hnd hdp;refine go 4 ?_;refine a0G 9 1 ?_;refine go 9 fun v53=>?_
   refine a0i (l:=[s]) rfl rfl ((.one rfl)) fun I53 j53 R53=>?_;have R53s:=R53;obtain⟨A53,c53,rfl,_,_,_⟩:=R53s;refine go 4 ?_;refine a0d ?_;refine a0a ?_;refine a0d ?_;refine a0a ?_;refine a0d ?_;refine a0a ?_
   refine c8x (_) ([s]) ([]) (A53) (c53) (_) ([]) (I53) (fun R lst out A1 c1 v12 xs J=>J)
    (fun R lst out A1 c1 v12 xs J=>[(8,.map (some r30)),(12,v12),(13,.slice A1 lst.length c1)])
    (fun R lst out A1 c1 v12 xs J=>[.row v12 9 1 out.length xs,.mp r30 (a1u Value.string (a2T R))])
    (fun R lst out A1 c1 v12 xs J=>RdS J (.slice A1 lst.length c1) lst∧Flat J xs out∧Bfs l s R lst out)
    (fun R lst out A1 c1 v12 xs J=>R.length+R.length+min lst.length 1) ⟨R53,.nil,hB0⟩ rfl sb rfl ?_
   intro R lst out A1 c1 v12 xs J ⟨hL,hFo,hB⟩;have hlen:=hB.len;refine gC 8 (fun h56 p56=>?_) fun h56 p56=>?_
   ·refine go 5 ?_;refine a0G 9 1 ?_;refine go 6 ?_;refine a0d ?_;refine a4e fun S0 hO0 hT0 hS0=>?_;refine go 2 ?_;refine b2A hS0 he rfl rfl fun i58=>?_;refine go 3 ?_
    refine a5g (S0) (R) ([]) (_) ([]) (fun S todo done v14 ys=>J)
     (fun S todo done v14 ys=>[(8,.map (some r30)),(12,v12),(13,.slice A1 lst.length c1),(14,v14),(58,.pointer (some ⟨i58,0,none⟩))])
     (fun S todo done v14 ys=>[.any i58 (S.it r30),.any r30 S.mp,.row v14 9 1 (a2m lst done).length ys,.row v12 9 1 out.length xs])
     (fun S todo done v14 ys=>S.Ok Value.string (a2T R)∧S.Todo Value.string (a2T todo)∧(done++todo).Perm R∧Flat J ys (a2m lst done))
     (fun S todo done v14 ys=>todo.length) ⟨hO0,hT0,.refl _,.nil⟩ rfl sb rfl ?_
    intro S todo done v14 ys ⟨hO,hT,hP,hFy⟩;have hdl:=hP.length_eq;rw[List.length_append]at hdl
    have hnl:=c1L (lst:=lst) done;refine go 3 ?_;refine a0b ?_;refine a0b ?_;refine b7w hO hT rfl rfl fun q59 S59 t59 hst=>?_;refine o_v rfl (a2c rfl (a7U _ _)) ?_;refine gC 3 (fun h60 p60=>?_) fun h60 p60=>?_
    ·obtain⟨n,u,a,b,htd,hO1,hT1,hA1,rfl⟩:=hst.nu h60;refine go 5 ?_;refine o_v rfl (b2R m0 m1 hO1 hA1 rfl) ?_;refine go 11 ?_;refine cV (a2W _ _ lst hL u) ?_;refine gC 2 (fun h66 p66=>?_) fun h66 p66=>?_
     ·refine go 5 fun v69=>?_
      refine go 1 ?_;refine a0u ?_;refine a0z he he rfl rfl rfl rfl rfl oM oM rfl fun v70=>?_;refine go 4 ?_;refine a0b ?_;refine a0a ?_;refine a0u ?_;refine a0b ?_;refine a0u ?_;refine a0u ?_;exact a2M (S59) (a++b) (done++[(n,u)]) (_) (_) ⟨hO1,hT1,a4n hP htd,by rw[b3W (p:=(n,u)) p66];exact hFy.append (.one rfl)⟩ (by rw[htd];simp) rfl sb (by rw[b3W (p:=(n,u)) p66,List.length_append];rfl)
     ·refine go 3 ?_;exact a2M (S59) (a++b) (done++[(n,u)]) (_) (_) ⟨hO1,hT1,a4n hP htd,by rw[b7q (p:=(n,u)) p66];exact hFy⟩ (by rw[htd];simp) rfl sb (by rw[b7q (p:=(n,u)) p66])
    ·obtain⟨rfl,rfl,rfl⟩:=hst.nuNone h60;have hdp:done.Perm R:=by simpa using hP
     refine a0b ?_;refine b1L hO ?_;refine go 8 ?_;refine a0d ?_;refine a0i (l:=(a2m lst done)) rfl rfl (hFy) fun I71 j71 R71=>?_;have hFo:=hFo.le j71;have R71s:=R71;obtain⟨A14,c14,rfl,hA71,_,_⟩:=R71s;refine go 6 ?_;refine a0b ?_;refine a0a ?_
     refine a0x (α:=Nat) 0 (fun i=>I71)
      (fun i=>[(8,.map (some r30)),(12,v12),(14,.slice A14 (a2m lst done).length c14),(71,.slice A14 (a2m lst done).length c14),(72,.int .i64 (((a2m lst done).length:Nat):Int)),(73,.int .i64 ((i:Nat):Int))])
      (fun i=>[.mp r30 (a1u Value.string (a2T (a7q R ((a2m lst done).take i)))),.row v12 9 1 out.length xs])
      (fun i=>i≤(a2m lst done).length)
      (fun i=>(a2m lst done).length-i) (Nat.zero_le _) rfl sb (by rw[List.take_zero,c2y]) ?_
     intro i hi;refine gC 6 (fun h74 p74=>?_) fun h74 p74=>?_
     ·have hlt:i<(a2m lst done).length:=oM;refine go 6 ?_;obtain⟨b75,o75,w75,e75,c75,r75⟩:=RdA.at_ hA71 (i:=i) oM;obtain rfl:=r75;refine go 9 ?_;refine b7v (a0y he) he ((a2m lst done)[i]) rfl rfl ?_;rw[b9u hlt hB.kn];refine go 8 ?_;exact a0w (i+1) oM oM rfl sb rfl
     ·obtain rfl:i=(a2m lst done).length:=oM;rw[List.take_length];refine go 10 ?_;refine a0b ?_;refine a1d (R71) rfl he he rfl rfl rfl rfl oM oM rfl fun v82 x82 f82=>?_;refine go 9 ?_;exact d0A (a7q R (a2m lst done)) ((a2m lst done)) (out++(a2m lst done)) (A14) (c14) (_) (_) (I71) ⟨R71,hFo.append f82,hB.step hsome hdp⟩ (by have:=b7r (lst:=lst) hB.kn hdp;omega) rfl sb (by rw[List.length_append])
   ·obtain rfl:lst=[]:=List.eq_nil_of_length_eq_zero oM;refine go 9 ?_;refine a0K (b7S _ _ out xs hFo oM) rfl rfl fun v85 s85 q85=>?_;obtain⟨rfl,m,ys,hpm,hFm,rfl⟩:=q85;refine go 10 ?_;refine a0b ?_;refine a0a ?_;exact q_x ⟨m,by rw[hpm.1,c4P hFm],fun n=>(hpm.2 n).trans hB.over,by have:=hpm.1;omega,b3Z m out hB.ond (by have:=hpm.1;omega) fun x hx=>(hpm.2 x).2 hx⟩
theorem c9F (I:IMap) {xss:List (List Value)} (g t i:Nat) (hU:Uk 14 xss) (p:Part) (q:Value) (hi:xss[i]? = some (p.cells q)) (u:Use) (dd:Ivl) (off:Nat) (ho:off=i * 14+8) :
    FnM prog 61 #[.pointer (some ⟨g,off,none⟩),.agg u.cells.toArray,.agg dd.cells.toArray] I (.blk g t xss.flatten) (.blk g t (xss.set i ((a8Y dd u p).cells q)).flatten):=by
 refine enter func61 call61 rfl ntmps61 rfl fun w0=>?_;refine go 4 fun g4=>?_
 refine go 2 fun g5=>?_
 refine go 2 ?_;refine a0d ?_;refine ds1 ?_;refine dG 0 6 ?_;refine dG 7 1 ?_;refine a0I 8 rfl rfl (by kernel_rfl) rfl (.cons _ (.refl _)) rfl (a1L (u.km.cells) m1 he rfl rfl rfl) ?_;refine dG 10 3 ?_;refine dG 14 1 ?_;refine a0I 15 rfl rfl (by kernel_rfl) rfl (.cons _ (.refl _)) rfl (a1L (u.cycles.cells) m1 he rfl rfl rfl) ?_;refine dG 17 3 ?_;refine dG 21 1 ?_;refine dT3 6 13 20 ?_ ?_ ?_
 ·refine a0t rfl (a1Y (p.life.km.cells) m0 hU he rfl (i) 8 oM hi rfl rfl rfl) ?_;refine go 1 ?_;refine dT3 9 13 20 ?_ ?_ ?_
  ·refine cV (a1S _ p.life.km u.km) ?_;refine go 1 ?_;refine dT2 13 20 ?_ ?_
   ·refine a0t rfl (a1Y (p.life.cycles.cells) m0 hU he rfl (i) 10 oM hi rfl rfl rfl) ?_;refine go 1 ?_;refine dT2 16 20 ?_ ?_
    ·refine cV (a1S _ p.life.cycles u.cycles) ?_;refine dH 20 0 ?_;refine a0t rfl (a1Y (p.life.damage.cells) m0 hU he rfl (i) 12 oM hi rfl rfl rfl) ?_;refine dH 22 0 ?_;refine cV (a1S _ p.life.damage dd) ?_;refine dH 23 2 ?_;refine a0P _ _ (by first|exact hU|exact hU.set rfl _|exact (hU.set rfl _).set rfl _) he rfl rfl rfl rfl rfl (i) 8 oM (by first|exact hi|exact a0e hi|exact a0e (a0e hi)) (by decide) rfl ?_;refine dH 26 2 ?_;refine a0P _ _ (by first|exact hU|exact hU.set rfl _|exact (hU.set rfl _).set rfl _) he rfl rfl rfl rfl rfl (i) 10 oM (by first|exact hi|exact a0e hi|exact a0e (a0e hi)) (by decide) rfl ?_;refine dH 29 2 ?_;refine a0P _ _ (by first|exact hU|exact hU.set rfl _|exact (hU.set rfl _).set rfl _) he rfl rfl rfl rfl rfl (i) 12 oM (by first|exact hi|exact a0e hi|exact a0e (a0e hi)) (by decide) rfl ?_;refine go 3 ?_;refine a0b ?_;refine a0a ?_;refine a0b ?_;refine a0a ?_;exact b4r (by rw[List.set_set,List.set_set];rfl)
    ·refine a0t rfl (a1Y (p.life.damage.cells) m0 hU he rfl (i) 12 oM hi rfl rfl rfl) ?_;refine dH 16 0 ?_;refine cV (a1S _ p.life.cycles u.cycles) ?_;refine dH 22 0 ?_;refine cV (a1S _ p.life.damage dd) ?_;refine dH 23 2 ?_;refine a0P _ _ (by first|exact hU|exact hU.set rfl _|exact (hU.set rfl _).set rfl _) he rfl rfl rfl rfl rfl (i) 8 oM (by first|exact hi|exact a0e hi|exact a0e (a0e hi)) (by decide) rfl ?_;refine dH 26 2 ?_;refine a0P _ _ (by first|exact hU|exact hU.set rfl _|exact (hU.set rfl _).set rfl _) he rfl rfl rfl rfl rfl (i) 10 oM (by first|exact hi|exact a0e hi|exact a0e (a0e hi)) (by decide) rfl ?_;refine dH 29 2 ?_;refine a0P _ _ (by first|exact hU|exact hU.set rfl _|exact (hU.set rfl _).set rfl _) he rfl rfl rfl rfl rfl (i) 12 oM (by first|exact hi|exact a0e hi|exact a0e (a0e hi)) (by decide) rfl ?_;refine go 3 ?_;refine a0b ?_;refine a0a ?_;refine a0b ?_;refine a0a ?_;exact b4r (by rw[List.set_set,List.set_set];rfl)
   ·refine a0t rfl (a1Y (p.life.damage.cells) m0 hU he rfl (i) 12 oM hi rfl rfl rfl) ?_;refine dH 13 0 ?_;refine a0t rfl (a1Y (p.life.cycles.cells) m0 hU he rfl (i) 10 oM hi rfl rfl rfl) ?_;refine dH 16 0 ?_;refine cV (a1S _ p.life.cycles u.cycles) ?_;refine dH 22 0 ?_;refine cV (a1S _ p.life.damage dd) ?_;refine dH 23 2 ?_;refine a0P _ _ (by first|exact hU|exact hU.set rfl _|exact (hU.set rfl _).set rfl _) he rfl rfl rfl rfl rfl (i) 8 oM (by first|exact hi|exact a0e hi|exact a0e (a0e hi)) (by decide) rfl ?_;refine dH 26 2 ?_;refine a0P _ _ (by first|exact hU|exact hU.set rfl _|exact (hU.set rfl _).set rfl _) he rfl rfl rfl rfl rfl (i) 10 oM (by first|exact hi|exact a0e hi|exact a0e (a0e hi)) (by decide) rfl ?_;refine dH 29 2 ?_;refine a0P _ _ (by first|exact hU|exact hU.set rfl _|exact (hU.set rfl _).set rfl _) he rfl rfl rfl rfl rfl (i) 12 oM (by first|exact hi|exact a0e hi|exact a0e (a0e hi)) (by decide) rfl ?_;refine go 3 ?_;refine a0b ?_;refine a0a ?_;refine a0b ?_;refine a0a ?_;exact b4r (by rw[List.set_set,List.set_set];rfl)
  ·refine a0t rfl (a1Y (p.life.cycles.cells) m0 hU he rfl (i) 10 oM hi rfl rfl rfl) ?_;refine go 1 ?_;refine dT2 9 20 ?_ ?_
   ·refine cV (a1S _ p.life.km u.km) ?_;refine go 1 ?_;refine dT2 16 20 ?_ ?_
    ·refine cV (a1S _ p.life.cycles u.cycles) ?_;refine dH 20 0 ?_;refine a0t rfl (a1Y (p.life.damage.cells) m0 hU he rfl (i) 12 oM hi rfl rfl rfl) ?_;refine dH 22 0 ?_;refine cV (a1S _ p.life.damage dd) ?_;refine dH 23 2 ?_;refine a0P _ _ (by first|exact hU|exact hU.set rfl _|exact (hU.set rfl _).set rfl _) he rfl rfl rfl rfl rfl (i) 8 oM (by first|exact hi|exact a0e hi|exact a0e (a0e hi)) (by decide) rfl ?_;refine dH 26 2 ?_;refine a0P _ _ (by first|exact hU|exact hU.set rfl _|exact (hU.set rfl _).set rfl _) he rfl rfl rfl rfl rfl (i) 10 oM (by first|exact hi|exact a0e hi|exact a0e (a0e hi)) (by decide) rfl ?_;refine dH 29 2 ?_;refine a0P _ _ (by first|exact hU|exact hU.set rfl _|exact (hU.set rfl _).set rfl _) he rfl rfl rfl rfl rfl (i) 12 oM (by first|exact hi|exact a0e hi|exact a0e (a0e hi)) (by decide) rfl ?_;refine go 3 ?_;refine a0b ?_;refine a0a ?_;refine a0b ?_;refine a0a ?_;exact b4r (by rw[List.set_set,List.set_set];rfl)
    ·refine a0t rfl (a1Y (p.life.damage.cells) m0 hU he rfl (i) 12 oM hi rfl rfl rfl) ?_;refine dH 16 0 ?_;refine cV (a1S _ p.life.cycles u.cycles) ?_;refine dH 22 0 ?_;refine cV (a1S _ p.life.damage dd) ?_;refine dH 23 2 ?_;refine a0P _ _ (by first|exact hU|exact hU.set rfl _|exact (hU.set rfl _).set rfl _) he rfl rfl rfl rfl rfl (i) 8 oM (by first|exact hi|exact a0e hi|exact a0e (a0e hi)) (by decide) rfl ?_;refine dH 26 2 ?_;refine a0P _ _ (by first|exact hU|exact hU.set rfl _|exact (hU.set rfl _).set rfl _) he rfl rfl rfl rfl rfl (i) 10 oM (by first|exact hi|exact a0e hi|exact a0e (a0e hi)) (by decide) rfl ?_;refine dH 29 2 ?_;refine a0P _ _ (by first|exact hU|exact hU.set rfl _|exact (hU.set rfl _).set rfl _) he rfl rfl rfl rfl rfl (i) 12 oM (by first|exact hi|exact a0e hi|exact a0e (a0e hi)) (by decide) rfl ?_;refine go 3 ?_;refine a0b ?_;refine a0a ?_;refine a0b ?_;refine a0a ?_;exact b4r (by rw[List.set_set,List.set_set];rfl)
   ·refine a0t rfl (a1Y (p.life.damage.cells) m0 hU he rfl (i) 12 oM hi rfl rfl rfl) ?_;refine dH 9 0 ?_;refine cV (a1S _ p.life.km u.km) ?_;refine dH 16 0 ?_;refine cV (a1S _ p.life.cycles u.cycles) ?_;refine dH 22 0 ?_;refine cV (a1S _ p.life.damage dd) ?_;refine dH 23 2 ?_;refine a0P _ _ (by first|exact hU|exact hU.set rfl _|exact (hU.set rfl _).set rfl _) he rfl rfl rfl rfl rfl (i) 8 oM (by first|exact hi|exact a0e hi|exact a0e (a0e hi)) (by decide) rfl ?_;refine dH 26 2 ?_;refine a0P _ _ (by first|exact hU|exact hU.set rfl _|exact (hU.set rfl _).set rfl _) he rfl rfl rfl rfl rfl (i) 10 oM (by first|exact hi|exact a0e hi|exact a0e (a0e hi)) (by decide) rfl ?_;refine dH 29 2 ?_;refine a0P _ _ (by first|exact hU|exact hU.set rfl _|exact (hU.set rfl _).set rfl _) he rfl rfl rfl rfl rfl (i) 12 oM (by first|exact hi|exact a0e hi|exact a0e (a0e hi)) (by decide) rfl ?_;refine go 3 ?_;refine a0b ?_;refine a0a ?_;refine a0b ?_;refine a0a ?_;exact b4r (by rw[List.set_set,List.set_set];rfl)
  ·refine a0t rfl (a1Y (p.life.damage.cells) m0 hU he rfl (i) 12 oM hi rfl rfl rfl) ?_;refine go 1 ?_;refine dT2 9 13 ?_ ?_
   ·refine cV (a1S _ p.life.km u.km) ?_;refine dH 13 0 ?_;refine a0t rfl (a1Y (p.life.cycles.cells) m0 hU he rfl (i) 10 oM hi rfl rfl rfl) ?_;refine dH 16 0 ?_;refine cV (a1S _ p.life.cycles u.cycles) ?_;refine dH 22 0 ?_;refine cV (a1S _ p.life.damage dd) ?_;refine dH 23 2 ?_;refine a0P _ _ (by first|exact hU|exact hU.set rfl _|exact (hU.set rfl _).set rfl _) he rfl rfl rfl rfl rfl (i) 8 oM (by first|exact hi|exact a0e hi|exact a0e (a0e hi)) (by decide) rfl ?_;refine dH 26 2 ?_;refine a0P _ _ (by first|exact hU|exact hU.set rfl _|exact (hU.set rfl _).set rfl _) he rfl rfl rfl rfl rfl (i) 10 oM (by first|exact hi|exact a0e hi|exact a0e (a0e hi)) (by decide) rfl ?_;refine dH 29 2 ?_;refine a0P _ _ (by first|exact hU|exact hU.set rfl _|exact (hU.set rfl _).set rfl _) he rfl rfl rfl rfl rfl (i) 12 oM (by first|exact hi|exact a0e hi|exact a0e (a0e hi)) (by decide) rfl ?_;refine go 3 ?_;refine a0b ?_;refine a0a ?_;refine a0b ?_;refine a0a ?_;exact b4r (by rw[List.set_set,List.set_set];rfl)
   ·refine a0t rfl (a1Y (p.life.cycles.cells) m0 hU he rfl (i) 10 oM hi rfl rfl rfl) ?_;refine dH 9 0 ?_;refine cV (a1S _ p.life.km u.km) ?_;refine dH 16 0 ?_;refine cV (a1S _ p.life.cycles u.cycles) ?_;refine dH 22 0 ?_;refine cV (a1S _ p.life.damage dd) ?_;refine dH 23 2 ?_;refine a0P _ _ (by first|exact hU|exact hU.set rfl _|exact (hU.set rfl _).set rfl _) he rfl rfl rfl rfl rfl (i) 8 oM (by first|exact hi|exact a0e hi|exact a0e (a0e hi)) (by decide) rfl ?_;refine dH 26 2 ?_;refine a0P _ _ (by first|exact hU|exact hU.set rfl _|exact (hU.set rfl _).set rfl _) he rfl rfl rfl rfl rfl (i) 10 oM (by first|exact hi|exact a0e hi|exact a0e (a0e hi)) (by decide) rfl ?_;refine dH 29 2 ?_;refine a0P _ _ (by first|exact hU|exact hU.set rfl _|exact (hU.set rfl _).set rfl _) he rfl rfl rfl rfl rfl (i) 12 oM (by first|exact hi|exact a0e hi|exact a0e (a0e hi)) (by decide) rfl ?_;refine go 3 ?_;refine a0b ?_;refine a0a ?_;refine a0b ?_;refine a0a ?_;exact b4r (by rw[List.set_set,List.set_set];rfl)
 ·refine a0t rfl (a1Y (p.life.cycles.cells) m0 hU he rfl (i) 10 oM hi rfl rfl rfl) ?_;refine go 1 ?_;refine dT2 6 20 ?_ ?_
  ·refine a0t rfl (a1Y (p.life.km.cells) m0 hU he rfl (i) 8 oM hi rfl rfl rfl) ?_;refine go 1 ?_;refine dT2 9 20 ?_ ?_
   ·refine cV (a1S _ p.life.km u.km) ?_;refine go 1 ?_;refine dT2 16 20 ?_ ?_
    ·refine cV (a1S _ p.life.cycles u.cycles) ?_;refine dH 20 0 ?_;refine a0t rfl (a1Y (p.life.damage.cells) m0 hU he rfl (i) 12 oM hi rfl rfl rfl) ?_;refine dH 22 0 ?_;refine cV (a1S _ p.life.damage dd) ?_;refine dH 23 2 ?_;refine a0P _ _ (by first|exact hU|exact hU.set rfl _|exact (hU.set rfl _).set rfl _) he rfl rfl rfl rfl rfl (i) 8 oM (by first|exact hi|exact a0e hi|exact a0e (a0e hi)) (by decide) rfl ?_;refine dH 26 2 ?_;refine a0P _ _ (by first|exact hU|exact hU.set rfl _|exact (hU.set rfl _).set rfl _) he rfl rfl rfl rfl rfl (i) 10 oM (by first|exact hi|exact a0e hi|exact a0e (a0e hi)) (by decide) rfl ?_;refine dH 29 2 ?_;refine a0P _ _ (by first|exact hU|exact hU.set rfl _|exact (hU.set rfl _).set rfl _) he rfl rfl rfl rfl rfl (i) 12 oM (by first|exact hi|exact a0e hi|exact a0e (a0e hi)) (by decide) rfl ?_;refine go 3 ?_;refine a0b ?_;refine a0a ?_;refine a0b ?_;refine a0a ?_;exact b4r (by rw[List.set_set,List.set_set];rfl)
    ·refine a0t rfl (a1Y (p.life.damage.cells) m0 hU he rfl (i) 12 oM hi rfl rfl rfl) ?_;refine dH 16 0 ?_;refine cV (a1S _ p.life.cycles u.cycles) ?_;refine dH 22 0 ?_;refine cV (a1S _ p.life.damage dd) ?_;refine dH 23 2 ?_;refine a0P _ _ (by first|exact hU|exact hU.set rfl _|exact (hU.set rfl _).set rfl _) he rfl rfl rfl rfl rfl (i) 8 oM (by first|exact hi|exact a0e hi|exact a0e (a0e hi)) (by decide) rfl ?_;refine dH 26 2 ?_;refine a0P _ _ (by first|exact hU|exact hU.set rfl _|exact (hU.set rfl _).set rfl _) he rfl rfl rfl rfl rfl (i) 10 oM (by first|exact hi|exact a0e hi|exact a0e (a0e hi)) (by decide) rfl ?_;refine dH 29 2 ?_;refine a0P _ _ (by first|exact hU|exact hU.set rfl _|exact (hU.set rfl _).set rfl _) he rfl rfl rfl rfl rfl (i) 12 oM (by first|exact hi|exact a0e hi|exact a0e (a0e hi)) (by decide) rfl ?_;refine go 3 ?_;refine a0b ?_;refine a0a ?_;refine a0b ?_;refine a0a ?_;exact b4r (by rw[List.set_set,List.set_set];rfl)
   ·refine a0t rfl (a1Y (p.life.damage.cells) m0 hU he rfl (i) 12 oM hi rfl rfl rfl) ?_;refine dH 9 0 ?_;refine cV (a1S _ p.life.km u.km) ?_;refine dH 16 0 ?_;refine cV (a1S _ p.life.cycles u.cycles) ?_;refine dH 22 0 ?_;refine cV (a1S _ p.life.damage dd) ?_;refine dH 23 2 ?_;refine a0P _ _ (by first|exact hU|exact hU.set rfl _|exact (hU.set rfl _).set rfl _) he rfl rfl rfl rfl rfl (i) 8 oM (by first|exact hi|exact a0e hi|exact a0e (a0e hi)) (by decide) rfl ?_;refine dH 26 2 ?_;refine a0P _ _ (by first|exact hU|exact hU.set rfl _|exact (hU.set rfl _).set rfl _) he rfl rfl rfl rfl rfl (i) 10 oM (by first|exact hi|exact a0e hi|exact a0e (a0e hi)) (by decide) rfl ?_;refine dH 29 2 ?_;refine a0P _ _ (by first|exact hU|exact hU.set rfl _|exact (hU.set rfl _).set rfl _) he rfl rfl rfl rfl rfl (i) 12 oM (by first|exact hi|exact a0e hi|exact a0e (a0e hi)) (by decide) rfl ?_;refine go 3 ?_;refine a0b ?_;refine a0a ?_;refine a0b ?_;refine a0a ?_;exact b4r (by rw[List.set_set,List.set_set];rfl)
  ·refine a0t rfl (a1Y (p.life.damage.cells) m0 hU he rfl (i) 12 oM hi rfl rfl rfl) ?_;refine dH 6 0 ?_;refine a0t rfl (a1Y (p.life.km.cells) m0 hU he rfl (i) 8 oM hi rfl rfl rfl) ?_;refine dH 9 0 ?_;refine cV (a1S _ p.life.km u.km) ?_;refine dH 16 0 ?_;refine cV (a1S _ p.life.cycles u.cycles) ?_;refine dH 22 0 ?_;refine cV (a1S _ p.life.damage dd) ?_;refine dH 23 2 ?_;refine a0P _ _ (by first|exact hU|exact hU.set rfl _|exact (hU.set rfl _).set rfl _) he rfl rfl rfl rfl rfl (i) 8 oM (by first|exact hi|exact a0e hi|exact a0e (a0e hi)) (by decide) rfl ?_;refine dH 26 2 ?_;refine a0P _ _ (by first|exact hU|exact hU.set rfl _|exact (hU.set rfl _).set rfl _) he rfl rfl rfl rfl rfl (i) 10 oM (by first|exact hi|exact a0e hi|exact a0e (a0e hi)) (by decide) rfl ?_;refine dH 29 2 ?_;refine a0P _ _ (by first|exact hU|exact hU.set rfl _|exact (hU.set rfl _).set rfl _) he rfl rfl rfl rfl rfl (i) 12 oM (by first|exact hi|exact a0e hi|exact a0e (a0e hi)) (by decide) rfl ?_;refine go 3 ?_;refine a0b ?_;refine a0a ?_;refine a0b ?_;refine a0a ?_;exact b4r (by rw[List.set_set,List.set_set];rfl)
 ·refine a0t rfl (a1Y (p.life.damage.cells) m0 hU he rfl (i) 12 oM hi rfl rfl rfl) ?_;refine go 1 ?_;refine dT2 6 13 ?_ ?_
  ·refine a0t rfl (a1Y (p.life.km.cells) m0 hU he rfl (i) 8 oM hi rfl rfl rfl) ?_;refine go 1 ?_;refine dT2 9 13 ?_ ?_
   ·refine cV (a1S _ p.life.km u.km) ?_;refine dH 13 0 ?_;refine a0t rfl (a1Y (p.life.cycles.cells) m0 hU he rfl (i) 10 oM hi rfl rfl rfl) ?_;refine dH 16 0 ?_;refine cV (a1S _ p.life.cycles u.cycles) ?_;refine dH 22 0 ?_;refine cV (a1S _ p.life.damage dd) ?_;refine dH 23 2 ?_;refine a0P _ _ (by first|exact hU|exact hU.set rfl _|exact (hU.set rfl _).set rfl _) he rfl rfl rfl rfl rfl (i) 8 oM (by first|exact hi|exact a0e hi|exact a0e (a0e hi)) (by decide) rfl ?_;refine dH 26 2 ?_;refine a0P _ _ (by first|exact hU|exact hU.set rfl _|exact (hU.set rfl _).set rfl _) he rfl rfl rfl rfl rfl (i) 10 oM (by first|exact hi|exact a0e hi|exact a0e (a0e hi)) (by decide) rfl ?_;refine dH 29 2 ?_;refine a0P _ _ (by first|exact hU|exact hU.set rfl _|exact (hU.set rfl _).set rfl _) he rfl rfl rfl rfl rfl (i) 12 oM (by first|exact hi|exact a0e hi|exact a0e (a0e hi)) (by decide) rfl ?_;refine go 3 ?_;refine a0b ?_;refine a0a ?_;refine a0b ?_;refine a0a ?_;exact b4r (by rw[List.set_set,List.set_set];rfl)
   ·refine a0t rfl (a1Y (p.life.cycles.cells) m0 hU he rfl (i) 10 oM hi rfl rfl rfl) ?_;refine dH 9 0 ?_;refine cV (a1S _ p.life.km u.km) ?_;refine dH 16 0 ?_;refine cV (a1S _ p.life.cycles u.cycles) ?_;refine dH 22 0 ?_;refine cV (a1S _ p.life.damage dd) ?_;refine dH 23 2 ?_;refine a0P _ _ (by first|exact hU|exact hU.set rfl _|exact (hU.set rfl _).set rfl _) he rfl rfl rfl rfl rfl (i) 8 oM (by first|exact hi|exact a0e hi|exact a0e (a0e hi)) (by decide) rfl ?_;refine dH 26 2 ?_;refine a0P _ _ (by first|exact hU|exact hU.set rfl _|exact (hU.set rfl _).set rfl _) he rfl rfl rfl rfl rfl (i) 10 oM (by first|exact hi|exact a0e hi|exact a0e (a0e hi)) (by decide) rfl ?_;refine dH 29 2 ?_;refine a0P _ _ (by first|exact hU|exact hU.set rfl _|exact (hU.set rfl _).set rfl _) he rfl rfl rfl rfl rfl (i) 12 oM (by first|exact hi|exact a0e hi|exact a0e (a0e hi)) (by decide) rfl ?_;refine go 3 ?_;refine a0b ?_;refine a0a ?_;refine a0b ?_;refine a0a ?_;exact b4r (by rw[List.set_set,List.set_set];rfl)
  ·refine a0t rfl (a1Y (p.life.cycles.cells) m0 hU he rfl (i) 10 oM hi rfl rfl rfl) ?_;refine dH 6 0 ?_;refine a0t rfl (a1Y (p.life.km.cells) m0 hU he rfl (i) 8 oM hi rfl rfl rfl) ?_;refine dH 9 0 ?_;refine cV (a1S _ p.life.km u.km) ?_;refine dH 16 0 ?_;refine cV (a1S _ p.life.cycles u.cycles) ?_;refine dH 22 0 ?_;refine cV (a1S _ p.life.damage dd) ?_;refine dH 23 2 ?_;refine a0P _ _ (by first|exact hU|exact hU.set rfl _|exact (hU.set rfl _).set rfl _) he rfl rfl rfl rfl rfl (i) 8 oM (by first|exact hi|exact a0e hi|exact a0e (a0e hi)) (by decide) rfl ?_;refine dH 26 2 ?_;refine a0P _ _ (by first|exact hU|exact hU.set rfl _|exact (hU.set rfl _).set rfl _) he rfl rfl rfl rfl rfl (i) 10 oM (by first|exact hi|exact a0e hi|exact a0e (a0e hi)) (by decide) rfl ?_;refine dH 29 2 ?_;refine a0P _ _ (by first|exact hU|exact hU.set rfl _|exact (hU.set rfl _).set rfl _) he rfl rfl rfl rfl rfl (i) 12 oM (by first|exact hi|exact a0e hi|exact a0e (a0e hi)) (by decide) rfl ?_;refine go 3 ?_;refine a0b ?_;refine a0a ?_;refine a0b ?_;refine a0a ?_;exact b4r (by rw[List.set_set,List.set_set];rfl)
theorem c1z (I:IMap) (x:Evt) (g:Nat) (day:Int) (cg:ICells I g 0 [ci day]) :
    FnV prog 55 #[.agg (Day.ch x).toArray,.pointer (some ⟨g,0,none⟩)] I (.bool (decide (x.day>day))):=by
 refine enter func55 call55 rfl ntmps55 rfl fun w0=>?_
 show SX _ _ _ (a9e [.agg x.cells.toArray,.pointer (some ⟨g,0,none⟩)] 0) _ _
 refine go 4 fun g2=>?_
 refine go 7 ?_;refine o_v rfl (a0H he rfl (cg 0 _ rfl)) ?_;refine go 6 ?_;exact q_v rfl
theorem c1A (I:IMap) (vc:Value) (c:List Kind) (hvc:RdS I vc c) (hsc:SmC c) (f:Fm) (sf:Value) (hf:FmRd I [ci f.op,ci f.n,sf] f) (v:Value) (l:List Evt) (hv:RdS I v l) (hl:l.length≤25) (hse:∀e∈l,SmE e) (day:Int) :
    FnI prog 14 #[.agg #[vc,ci f.op,ci f.n,sf],v,.int .i64 day] I (fun u J=>∃w,u = .tuple #[.agg #[w],.int .i64 (runL f c l day).2.1,.int .i64 (runL f c l day).2.2]∧RdS J w (runL f c l day).1):=by
 obtain⟨U,hUe⟩:∃U,a1Z (l.filter fun e=>!decide (e.day>day))=U:=⟨_,rfl⟩;have hUl:U.length≤25:=by rw[←hUe,a4p];exact Nat.le_trans (List.length_filter_le _ _) hl
 have hUs:∀e∈U,SmE e:=fun e he=>hse e (List.mem_filter.1 (a7u.1 (hUe▸he))).1
 refine enter func14 call14 rfl ntmps14 rfl fun w0=>?_;refine go 4 fun g3=>?_
 refine go 2 fun g5=>?_
 refine go 2 fun g6=>?_
 refine go 6 ?_;refine a1N (I':=I) (L':=[(1,v),(3,.pointer (some ⟨g3,0,none⟩)),(5,.pointer (some ⟨g5,0,none⟩)),(6,.pointer (some ⟨g6,0,none⟩)),(27,.bool (!a2p c || !a2C f))]) (H':=[.blk g3 29 [vc,ci f.op,ci f.n,sf],.blk g5 3 [ci day],.blk g6 62 [.slice none 0 0]]) ?_ ?_
 ·refine go 2 ?_;refine o_v rfl (a1L ([vc]) m2 he rfl rfl rfl) ?_;refine go 1 ?_;refine cV (a6N _ vc c hvc hsc) ?_;refine gS 2 22 (fun h22 p22=>?_) fun h22 p22=>?_
  ·refine go 7 ?_;refine a0b ?_;refine a0d ?_;exact a0o ⟨rfl,rfl,rfl,rfl,(bB (by simp only[h22,bS])),trivial⟩ rfl rfl
  ·refine go 1 ?_;refine a0A (a0q rfl rfl h22 (a0t rfl (a1L ([ci f.op,ci f.n,sf]) m2 he rfl rfl rfl) ?_));refine go 1 ?_;refine a0q rfl rfl h22 (a0v (c1e _ f _ hf) rfl rfl ?_);refine go 4 ?_;refine a0b ?_;refine a0d ?_;exact a0o ⟨rfl,rfl,rfl,rfl,(bB (by simp only[h22,bS])),trivial⟩ rfl rfl
 ·refine gC 0 (fun h27 p27=>?_) fun h27 p27=>?_
  ·refine go 4 ?_;refine a0d ?_;refine go 8 ?_;exact q_i ⟨_,by rw[b7N h27],by rw[b7N h27];exact RdS.nil'⟩
  ·refine go 6 ?_;refine a0b ?_;refine a0B fun Ig5 jg5 cg5=>?_;have hvc:=hvc.le jg5;have hv:=hv.le jg5;have hf:=hf.le jg5;refine a1F (b3o _ v l hv oM) rfl rfl fun v30 s30 q30=>?_;obtain⟨xss,rfl,hx⟩:=q30;obtain rfl:=b5h hx;refine go 2 ?_;refine a9V (a6p _ _ l oM 55 [.pointer (some ⟨g5,0,none⟩)] (fun x=>decide (x.day>day)) (fun I2 hI2 x=>c1z I2 x g5 day (cg5.le hI2))) rfl rfl fun v32 I32 j32 q32=>?_;have hvc:=hvc.le j32;have hf:=hf.le j32;refine go 7 fun g10=>?_
   refine go 7 ?_;refine a0p (d1Z _ _ (l.filter fun e=>!decide (e.day>day)) q32 (Nat.le_trans (List.length_filter_le _ _) oM)) rfl rfl fun v34 I34 j34 q34=>?_;have hvc:=hvc.le j34;have hf:=hf.le j34;rw[hUe]at q34
   have R34:=q34;obtain⟨A34,c34,rfl,hA34,_,_⟩:=q34;refine go 5 ?_;refine a0b ?_;refine a0d ?_;refine a0d ?_
   refine a4G ((0:Nat)) ([]) (.slice none 0 0) (I34) (fun i st v10 J=>J)
    (fun i st v10 J=>[(3,.pointer (some ⟨g3,0,none⟩)),(6,.pointer (some ⟨g6,0,none⟩)),(10,.pointer (some ⟨g10,0,none⟩)),(34,.slice A34 U.length c34),(35,.int .i64 ((U.length:Nat):Int)),(36,.int .i64 ((i:Nat):Int))])
    (fun i st v10 J=>[.blk g10 62 [v10],.blk g6 62 [.slice none 0 0],.blk g3 29 [vc,ci f.op,ci f.n,sf]])
    (fun i st v10 J=>i≤U.length∧ILe I34 J∧RdS J v10 st∧SmF st∧a6R st≤i∧runLGo f c st (i:Nat) (U.drop i)=runL f c l day)
    (fun i st v10 J=>U.length-i) ⟨Nat.zero_le _,ILe.refl _,RdS.nil',SmF.nil,Nat.le_refl _,by rw[d0L h27,hUe];rfl⟩ rfl sb rfl ?_
   intro i st v10 J ⟨hi,hJ,hv10,hsf,hcn,hgo⟩;have hvc:=hvc.le hJ;have hf:=hf.le hJ;have hA34:=hA34.le hJ;refine gC 6 (fun h37 p37=>?_) fun h37 p37=>?_
   ·have hlt:i<U.length:=oM;refine go 7 ?_;obtain⟨b39,o39,w39,e39,c39,r39⟩:=RdA.at_ hA34 (i:=i) oM;obtain rfl:=r39;refine go 4 fun g12=>?_
    refine go 8 ?_;refine o_v rfl (a1L ([vc]) m3 he rfl rfl rfl) ?_;refine go 3 ?_;refine a0p (b5s _ vc c hvc hsc v10 st hv10 hsf U[i] (hUs _ (List.getElem_mem hlt))) rfl rfl fun v46 I46 j46 q46=>?_;have hvc:=hvc.le j46;have hf:=hf.le j46;have hA34:=hA34.le j46;obtain⟨w46,rfl,hw46⟩:=q46;refine go 5 fun g13=>?_
    refine go 1 ?_;refine a0Q _ he rfl rfl rfl rfl rfl (by simp[RdS.one hw46]) ?_;refine gC 10 (fun h50 p50=>?_) fun h50 p50=>?_
    ·refine go 6 ?_;refine a0u ?_;refine go 13 ?_;have hr:runL f c l day=([],((i:Nat):Int),(a0g c st U[i]).2):=by rw[←hgo,c4T hlt p50]
     exact q_i ⟨_,by rw[hr]<;>rfl,by rw[hr];exact RdS.nil'⟩
    ·have h0:(a0g c st U[i]).2=0:=by simpa using h50
     have hsm:=a9c (c:=c) hsf (hUs _ (List.getElem_mem hlt));have hc1:=b3q h0;have hc2:(a0g c st U[i]).1.length+b1j (a0g c st U[i]).1≤i+1:=by unfold a6R at *;omega
     have hfl:b1j (a0g c st U[i]).1≤(a0g c st U[i]).1.length:=List.length_filter_le _ _;have hfn:b1j (a0g c st U[i]).1≤12:=oM;refine go 7 ?_;refine a0d ?_;refine a0Q _ he rfl rfl rfl rfl rfl (by simp[RdS.one hw46]) ?_;refine gC 9 (fun h57 p57=>?_) fun h57 p57=>?_
     ·refine go 9 ?_;refine a0b ?_;refine a0a ?_;refine a0b ?_;refine a0a ?_;exact a1V (i+1) ((a0g c st U[i]).1) (w46) (I46) ⟨oM,hJ.trans j46,hw46,hsm,oM,(c1j hlt h0 p57).symm.trans hgo⟩ oM rfl sb rfl
     ·have h4:U[i].op=4:=by simpa using h57
      refine go 3 ?_;refine c0i (Ix:=(fun v15 ns ys=>I46)) (Lx:=(fun v15 ns ys=>[(3,.pointer (some ⟨g3,0,none⟩)),(6,.pointer (some ⟨g6,0,none⟩)),(10,.pointer (some ⟨g10,0,none⟩)),(34,.slice A34 U.length c34),(35,.int .i64 ((U.length:Nat):Int)),(36,.int .i64 ((i:Nat):Int)),(12,.pointer (some ⟨g12,0,none⟩)),(15,v15)])) (Hx:=(fun v15 ns ys=>[.row v15 9 1 (ns++[U[i].part]).length ys,.blk g10 62 [w46],.blk g12 130 U[i].cells,.blk g6 62 [.slice none 0 0],.blk g3 29 [vc,ci f.op,ci f.n,sf]])) (p:=(fun v15 ns ys=>Flat I46 ys (ns++[U[i].part])∧∀n,n∈ns↔a8W (a0g c st U[i]).1 U[i].part n)) ?_ ?_
      ·refine go 1 ?_;refine dG 0 3 ?_;refine dG 4 2 ?_;refine dT2 3 6 ?_ ?_
       ·refine a1F (a8I _ _ (a0g c st U[i]).1 hw46 U[i].part hfn) rfl rfl fun v61 s61 q61=>?_;obtain⟨ns,rfl,hns,hnl,_⟩:=q61;refine dH 6 0 ?_;refine go 1 fun v64=>?_
        refine dH 7 0 ?_;refine a0b ?_;refine a0z he he rfl rfl rfl rfl rfl oM oM rfl fun v65=>?_;refine dG 8 1 ?_;refine go 2 ?_;refine a0b ?_;refine a0a ?_;refine a0d ?_;refine a0a ?_;exact a5j (_) (ns) (_) ⟨(a3d _ ns).flat.append (.one rfl),hns⟩ sb (by rw[List.length_append];rfl) rfl
       ·refine go 1 fun v64=>?_
        refine dH 3 0 ?_;refine a1F (a8I _ _ (a0g c st U[i]).1 hw46 U[i].part hfn) rfl rfl fun v61 s61 q61=>?_;obtain⟨ns,rfl,hns,hnl,_⟩:=q61;refine dH 7 0 ?_;refine a0b ?_;refine a0b ?_;refine a0z he he rfl rfl rfl rfl rfl oM oM rfl fun v65=>?_;refine dG 8 1 ?_;refine go 2 ?_;refine a0b ?_;refine a0a ?_;refine a0d ?_;refine a0a ?_;exact a5j (_) (ns) (_) ⟨(a3d _ ns).flat.append (.one rfl),hns⟩ sb (by rw[List.length_append];rfl) rfl
      ·intro v15 ns ys ⟨hF15,hns⟩;refine go 2 ?_;refine a0i (l:=(ns++[U[i].part])) rfl rfl (hF15) fun I66 j66 R66=>?_;have hvc:=hvc.le j66;have hf:=hf.le j66;have hA34:=hA34.le j66;have hw46:=hw46.le j66;have R66s:=R66;obtain⟨A15,c15,rfl,_,_,_⟩:=R66s;refine go 1 ?_;refine o_v rfl (a1L ([ci f.op,ci f.n,sf]) m3 he rfl rfl rfl) ?_;refine go 1 ?_;refine o_v rfl (a1L (U[i].use.cells) m1 he rfl rfl rfl) ?_;refine go 1 ?_;refine cV (c4R _ f _ hf U[i].use) ?_;refine go 2 fun g16=>?_
       refine go 9 ?_;refine a1F (b1a _ _ (a0g c st U[i]).1 hw46 oM) rfl rfl fun v73 s73 q73=>?_;obtain⟨xss,rfl,hx⟩:=q73;have hpos:0<(a0g c st U[i]).1.length:=by rw[b9X h0 h4];exact d0M h0 h4
       refine a7A hx.uk hx.len (fun h9 _=>absurd h9 oM) fun g73 cap73 rest73 e73 hR73 hc73 hm73=>?_;subst e73;refine go 2 ?_;refine a0d ?_;refine go 12 ?_;refine a4S ?_;refine a4S ?_;refine a4S ?_;refine a0u ?_;refine a4S ?_;refine a4S ?_
       refine a0L ((0:Nat)) (xss) (fun k xss=>I66)
        (fun k xss=>[(3,.pointer (some ⟨g3,0,none⟩)),(6,.pointer (some ⟨g6,0,none⟩)),(10,.pointer (some ⟨g10,0,none⟩)),(34,.slice A34 U.length c34),(35,.int .i64 ((U.length:Nat):Int)),(36,.int .i64 ((i:Nat):Int)),(12,.pointer (some ⟨g12,0,none⟩)),(15,.slice A15 (ns++[U[i].part]).length c15),(16,.pointer (some ⟨g16,0,none⟩)),(77,.int .i64 (((a0g c st U[i]).1.length:Nat):Int)),(78,.int .i64 ((k:Nat):Int))])
        (fun k xss=>[.blk g73 85 (xss++rest73).flatten,.blk g16 81 (b1Y f U[i].use).cells,.blk g10 62 [.slice (some ⟨g73,0,none⟩) (a0g c st U[i]).1.length cap73],.blk g12 130 U[i].cells,.blk g6 62 [.slice none 0 0],.blk g3 29 [vc,ci f.op,ci f.n,sf]])
        (fun k xss=>k≤(a0g c st U[i]).1.length∧FlatC I66 xss (useUp (a0g c st U[i]).1 U[i] (b1Y f U[i].use) k))
        (fun k xss=>(a0g c st U[i]).1.length-k) ⟨Nat.zero_le _,by rw[b9C];exact hx⟩ rfl sb rfl ?_
       intro k xss ⟨hk,hx⟩;refine gC 6 (fun h79 p79=>?_) fun h79 p79=>?_
       ·have hlk:k<(a0g c st U[i]).1.length:=oM;have hlx:k<xss.length:=by rw[hx.len,b4L];exact hlk
        obtain⟨q,hkc,hq⟩:=c4f hx (b8b hlk) rest73;have hU14:Uk 14 (xss++rest73):=hx.uk.append hR73;refine go 16 ?_;refine o_v rfl (a0m he rfl rfl rfl (k) oM oM) ?_;refine go 1 ?_;refine o_v rfl (d4m m0 hU14 he rfl (k) 0 oM hkc rfl) ?_;refine go 1 ?_;refine cV (a2W _ _ (ns++[U[i].part]) R66 _) ?_;refine gC 2 (fun h88 p88=>?_) fun h88 p88=>?_
        ·refine ds1 ?_;refine dG 0 3 ?_;refine a0I 3 rfl rfl (by kernel_rfl) rfl (.cons _ (.refl _)) rfl (a0m he rfl rfl rfl (k) oM oM) ?_;refine dG 4 2 ?_;refine a0I 6 rfl rfl (by kernel_rfl) rfl (.cons _ (.refl _)) rfl (a1L (U[i].use.cells) m2 he rfl rfl rfl) ?_;refine dH 7 1 ?_;refine a2J (c9F _ g73 85 k hU14 (a0g c st U[i]).1[k] q hkc U[i].use (b1Y f U[i].use) _ oM) rfl rfl ?_;refine go 9 ?_;exact a0n (k+1) (_) ⟨oM,by rw[b1N hlk,c6X hlk hns p88];exact hx.set (x:=a8Y (b1Y f U[i].use) U[i].use (a0g c st U[i]).1[k]) ⟨q,rfl,hq⟩ k⟩ oM rfl sb (by rw[List.set_append_left _ _ hlx])
        ·refine go 8 ?_;exact a0n (k+1) (_) ⟨oM,by rw[c6V hlk hns p88];exact hx⟩ oM rfl sb rfl
       ·obtain rfl:k=(a0g c st U[i]).1.length:=oM;rw[c3n]at hx
        refine a2a hx.uk hR73 (by rw[hx.len,use_len]) hc73 hm73 ?_;refine a0i (l:=useL (a0g c st U[i]).1 U[i] (b1Y f U[i].use)) rfl use_len.symm hx.flat fun I9 j9 R9=>?_;refine go 11 ?_;refine a0a ?_;refine a0b ?_;refine a0a ?_;exact a1V (i+1) (useL (a0g c st U[i]).1 U[i] (b1Y f U[i].use)) (_) (I9) ⟨oM,hJ.trans (j46.trans (j66.trans j9)),R9,d4k hsm,by rw[c0v];omega,(c9p hlt h0 h4).symm.trans hgo⟩ oM rfl sb rfl
   ·refine go 9 ?_;refine a0b ?_;refine a0Q _ he rfl rfl rfl rfl rfl (by simp[RdS.one hv10]) ?_;refine go 6 ?_;have hr:runL f c l day=(st,-1,0):=by rw[←hgo,c9o oM]
    exact q_i ⟨_,by rw[hr]<;>rfl,by rw[hr];exact hv10⟩
end Go.Proofs.YtgmkjpafapgccaaGreat
namespace Go.Proofs.YtgmkjpafapgccaaGreat
open Go Go.Sx Tryz
set_option linter.all false
set_option maxRecDepth 20000
set_option maxHeartbeats 4000000
instance:Has (tyK prog 406) (false,1):=hk
instance:Has (prog.underlying 362) (.map 9 360):=hk
instance:Has (a1i prog 406) [.nilFunc]:=hk
instance:Has (zvK prog 360) (.nilFunc):=hk
theorem b3R (I:IMap) (day a:Int) (hd:0≤day∧day≤40000) :
    FnV prog 298 #[.int .i64 (day),.int .i64 (a)] I (.agg (b0m day a).cells.toArray):=by
 refine enter func298 call298 rfl ntmps298 rfl fun w0=>?_;refine go 4 fun g4=>?_
 refine gC 10 (fun h8 p8=>?_) fun h8 p8=>?_
 ·refine go 10 ?_;exact q_v (by unfold b0m;rw[if_pos p8];rfl)
 ·refine go 8 ?_;refine o_v rfl (OV.cast (u:=.int .i64 (max a (day-(1000000000000:Int)))) (a5s rfl rfl) (congrArg (Value.int .i64) oM)) ?_;refine go 15 ?_;exact q_v (by unfold b0m;rw[if_neg p8];rfl)
theorem d2g (I:IMap) (p:Part) (q:Value) (day:Int) (hd:0≤day∧day≤40000) :
    FnV prog 299 #[.agg (p.cells q).toArray,.int .i64 (day)] I (.agg p.life.km.cells.toArray):=by
 refine enter func299 call299 rfl ntmps299 rfl fun w0=>?_;refine go 4 fun g2=>?_
 refine go 2 fun g4=>?_
 refine go 6 ?_;refine o_v rfl (a1L (p.life.km.cells) m1 he rfl rfl rfl) ?_;refine go 6 ?_;exact q_v rfl
theorem b8v (I:IMap) (p:Part) (q:Value) (day:Int) (hd:0≤day∧day≤40000) :
    FnV prog 300 #[.agg (p.cells q).toArray,.int .i64 (day)] I (.agg p.life.cycles.cells.toArray):=by
 refine enter func300 call300 rfl ntmps300 rfl fun w0=>?_;refine go 4 fun g2=>?_
 refine go 2 fun g4=>?_
 refine go 6 ?_;refine o_v rfl (a1L (p.life.cycles.cells) m1 he rfl rfl rfl) ?_;refine go 6 ?_;exact q_v rfl
theorem b8w (I:IMap) (p:Part) (q:Value) (day:Int) (hd:0≤day∧day≤40000) :
    FnV prog 301 #[.agg (p.cells q).toArray,.int .i64 (day)] I (.agg p.life.damage.cells.toArray):=by
 refine enter func301 call301 rfl ntmps301 rfl fun w0=>?_;refine go 4 fun g2=>?_
 refine go 2 fun g4=>?_
 refine go 6 ?_;refine o_v rfl (a1L (p.life.damage.cells) m1 he rfl rfl rfl) ?_;refine go 6 ?_;exact q_v rfl
theorem c0w (I:IMap) (p:Part) (q:Value) (day:Int) (hd:0≤day∧day≤40000) (g:Nat) (hg:ICells I g 0 [.func (.func 298) #[] #[]]) :
    FnV prog 302 #[.agg (p.cells q).toArray,.int .i64 (day),.pointer (some ⟨g,0,none⟩)] I (.agg (b0m day p.since).cells.toArray):=by
 refine enter func302 call302 rfl ntmps302 rfl fun w0=>?_;refine go 4 fun g3=>?_
 refine go 2 fun g5=>?_
 refine go 4 ?_;refine o_v rfl (a0H he rfl (hg 0 _ rfl)) ?_;refine go 4 ?_;refine cV (b3R _ day p.since hd) ?_;refine go 6 ?_;exact q_v rfl
theorem c4p (I:IMap) (p:Part) (q:Value) (day:Int) (hd:0≤day∧day≤40000) (g:Nat) (hg:ICells I g 0 [.func (.func 298) #[] #[]]) :
    FnV prog 303 #[.agg (p.cells q).toArray,.int .i64 (day),.pointer (some ⟨g,0,none⟩)] I (.agg (b0m day p.made).cells.toArray):=by
 refine enter func303 call303 rfl ntmps303 rfl fun w0=>?_;refine go 4 fun g3=>?_
 refine go 2 fun g5=>?_
 refine go 4 ?_;refine o_v rfl (a0H he rfl (hg 0 _ rfl)) ?_;refine go 4 ?_;refine cV (b3R _ day p.made hd) ?_;refine go 6 ?_;exact q_v rfl
def d2f (g:Nat):List (ByteArray×Value):=[(sKm,.func (.func 299) #[] #[]),(a2N,.func (.func 300) #[] #[]),(a3c,.func (.func 301) #[] #[]),(a8b,.func (.func 302) #[] #[.pointer (some ⟨g,0,none⟩)]),(c2K,.func (.func 303) #[] #[.pointer (some ⟨g,0,none⟩)])]
theorem c9G (I:IMap) :
    FnH prog 250 #[] I [] (fun u J H2=>∃m g,u = .map (some m)∧H2=[.mp m (a1u Value.string (d2f g))]∧ICells J g 0 [.func (.func 298) #[] #[]]):=by
 refine enter func250 call250 rfl ntmps250 rfl fun w0=>?_;refine go 9 fun g1=>?_
 refine go 7 ?_;refine a4W (Value.string) he rfl fun r2=>?_;refine go 1 ?_;refine a7l ([(sKm,.func (.func 299) #[] #[])]) (a0y he) he (sKm) rfl rfl rfl (rfl) ?_;refine go 1 ?_;refine a7l ([(sKm,.func (.func 299) #[] #[]),(a2N,.func (.func 300) #[] #[])]) (a0y he) he (a2N) rfl rfl rfl (rfl) ?_;refine go 1 ?_;refine a7l ([(sKm,.func (.func 299) #[] #[]),(a2N,.func (.func 300) #[] #[]),(a3c,.func (.func 301) #[] #[])]) (a0y he) he (a3c) rfl rfl rfl (rfl) ?_;refine go 2 ?_;refine a7l ([(sKm,.func (.func 299) #[] #[]),(a2N,.func (.func 300) #[] #[]),(a3c,.func (.func 301) #[] #[]),(a8b,.func (.func 302) #[] #[.pointer (some ⟨g1,0,none⟩)])]) (a0y he) he (a8b) rfl rfl rfl (rfl) ?_;refine go 2 ?_;refine a7l ([(sKm,.func (.func 299) #[] #[]),(a2N,.func (.func 300) #[] #[]),(a3c,.func (.func 301) #[] #[]),(a8b,.func (.func 302) #[] #[.pointer (some ⟨g1,0,none⟩)]),(c2K,.func (.func 303) #[] #[.pointer (some ⟨g1,0,none⟩)])]) (a0y he) he (c2K) rfl rfl rfl (rfl) ?_;refine go 6 ?_;refine a0b ?_;refine a0B fun J9 j9 c9=>?_;exact a3g (fun _ m=>m) ⟨_,g1,rfl,rfl,c9⟩
theorem c4o (I:IMap) (g:Nat) (hg:ICells I g 0 [.func (.func 298) #[] #[]]) (s:ByteArray):∃(z:Value) (b:Bool),(a3U (d2f g) s).getD .nilFunc=z∧(a3U (d2f g) s).isSome=b∧b=a9G s∧(b=true→∃(k:FuncId) (cs:List Value),z = .func (.func k) #[] cs.toArray ∧
  ∀J,ILe I J→∀(p:Part) (q:Value) (day:Int),0≤day∧day≤40000→FnV prog k ([Value.agg (p.cells q).toArray,.int .i64 day]++cs).toArray J (.agg (c7v p s day).cells.toArray)):=by
 obtain⟨⟨n1,n2,n3,n4⟩,⟨n5,n6,n7⟩,⟨n8,n9⟩,n10⟩:=d2h;refine⟨_,_,rfl,rfl,?_,?_⟩
 ·rw[d2f,b6F]
  rcases b3u s with h|h
  ·rcases h with rfl|rfl|rfl|rfl|rfl<;>simp[a9G,c7w, *,Ne.symm,n1.symm,n2.symm,n3.symm,n4.symm,n5.symm,n6.symm,n7.symm,n8.symm,n9.symm,n10.symm]
  ·rw[h];have h2:s∉c7w:=by simpa[a9G]using h
   simp only[c7w,List.mem_cons,List.not_mem_nil,or_false,not_or]at h2
   simp[h2]
 ·intro hs;rw[d2f,b6F]at hs ⊢
  rcases b3u s with h|h
  ·rcases h with rfl|rfl|rfl|rfl|rfl
   ·exact⟨299,[],by simp,fun J _ p q day hd=>by rw[c7v,if_pos rfl];exact d2g J p q day hd⟩
   ·exact⟨300,[],by simp[n1.symm],fun J _ p q day hd=>by rw[c7v,if_neg n1.symm,if_pos rfl];exact b8v J p q day hd⟩
   ·exact⟨301,[],by simp[n2.symm,n5.symm],fun J _ p q day hd=>by rw[c7v,if_neg n2.symm,if_neg n5.symm,if_pos rfl];exact b8w J p q day hd⟩
   ·exact⟨302,[.pointer (some ⟨g,0,none⟩)],by simp[n3.symm,n6.symm,n8.symm],fun J hJ p q day hd=>by rw[c7v,if_neg n3.symm,if_neg n6.symm,if_neg n8.symm,if_pos rfl];exact c0w J p q day hd g (hg.le hJ)⟩
   ·exact⟨303,[.pointer (some ⟨g,0,none⟩)],by simp[n4.symm,n7.symm,n9.symm,n10.symm],fun J hJ p q day hd=>by rw[c7v,if_neg n4.symm,if_neg n7.symm,if_neg n9.symm,if_neg n10.symm];exact c4p J p q day hd g (hg.le hJ)⟩
  ·exfalso
   have h2:s∉c7w:=by simpa[a9G]using h
   simp only[c7w,List.mem_cons,List.not_mem_nil,or_false,not_or]at h2
   simp[h2]at hs
theorem c1B (I:IMap) (p:Part) (q:Value) (hq:q.oneCell'=true) (s:ByteArray) (day:Int) :
    FnV prog 169 #[.agg (p.cells q).toArray,.string s,.int .i64 (day)] I (.tuple #[.agg (a3X p s day).1.cells.toArray,.int .i64 ((a3X p s day).2)]):=by
 refine enter func169 call169 rfl ntmps169 rfl fun w0=>?_;refine go 4 fun g3=>?_
 refine go 2 fun g6=>?_
 refine go 6 ?_;refine a5Z (c9G _) rfl rfl fun u11 I11 H11 j11 q11=>?_;obtain⟨m,g,rfl,rfl,hg⟩:=q11;refine a6f ?_;obtain⟨z,b,hz,hb,hbs,hzb⟩:=c4o _ g hg s;refine go 1 ?_;refine o_v rfl (a8t m0 (a0y he) he he (s) rfl rfl hz hb) ?_;refine gC 16 (fun h16 p16=>?_) fun h16 p16=>?_
 ·refine go 4 ?_;refine a0b ?_;refine go 8 ?_;exact a8p (by rw[c7d (by rw[←hbs];simpa using h16)]<;>rfl)
 ·have hb1:b=true:=by simpa using h16
  obtain⟨k,cs,rfl,hcall⟩:=hzb hb1;refine go 1 ?_;refine a1N (I':=I11) (L':=[(2,.int .i64 (day)),(3,.pointer (some ⟨g3,0,none⟩)),(6,.pointer (some ⟨g6,0,none⟩)),(8,.func (.func k) #[] cs.toArray),(20,.bool (decide (day<0)||decide (day>40000)))]) (H':=[.blk g3 85 (p.cells q),.blk g6 81 [.int .i64 (0),.int .i64 (0)]]) ?_ ?_
  ·refine gS 4 23 (fun h23 p23=>?_) fun h23 p23=>?_
   ·refine go 6 ?_;refine a0a ?_;refine a0b ?_;exact a0o ⟨rfl,rfl,rfl,rfl,(bB (by simp only[h16,h23,bS])),trivial⟩ rfl rfl
   ·refine go 6 ?_;refine a0a ?_;refine a0b ?_;exact a0o ⟨rfl,rfl,rfl,rfl,(bB (by simp only[h16,h23,bS])),trivial⟩ rfl rfl
  ·refine gC 0 (fun h20 p20=>?_) fun h20 p20=>?_
   ·refine go 4 ?_;refine a0b ?_;refine go 8 ?_;exact a8p (by rw[c3B (by rw[←hbs,hb1]) h20]<;>rfl)
   ·have hd:0≤day∧day≤40000:=by simp at h20;omega
    refine go 9 ?_;refine cV (hcall _ (ILe.refl _) p q day hd) ?_;refine go 1 ?_;refine a0b ?_;refine go 6 ?_;exact a8p (by rw[c3C (by rw[←hbs,hb1]) h20]<;>rfl)
end Go.Proofs.YtgmkjpafapgccaaGreat
set_option linter.all false
namespace Go.Sx
open Go
def a3u (e:Evt):Bool:=!(((((decide (((e.part.size:Nat):Int)>300)||decide (((e.kind.size:Nat):Int)>300))||decide (((e.into.size:Nat):Int)>300))||decide (((e.slot.size:Nat):Int)>300))||decide (((e.key.size:Nat):Int)>300))||decide (((e.value.size:Nat):Int)>300))
def b8m (c:List Kind) (f:Fm) (l:List Evt) (n:Int):Bool:=(decide (((l.length:Nat):Int)>n) || !c4C c) || !decide (nodesF f 80≤80)
def b5j (c:List Kind) (f:Fm) (l:List Evt) (n:Int):Bool:=!b8m c f l n&&a3A (fun _ e=>a3u e) l l.length
theorem b9x {e:Evt} (h:a3u e=true):SmE e:=by
 simp only[a3u,Bool.not_eq_true',Bool.or_eq_false_iff,decide_eq_false_iff_not]at h
 refine⟨?_,?_,?_,?_,?_,?_⟩<;>unfold Sm<;>omega
theorem c4B {c:List Kind} {f:Fm} {l:List Evt} {n:Nat} (h:b5j c f l (n:Nat)=true):SmC c∧l.length≤n∧(∀e∈l,SmE e):=by
 simp only[b5j,b8m,Bool.and_eq_true,Bool.not_eq_true',Bool.or_eq_false_iff,decide_eq_false_iff_not,Bool.not_eq_false']at h
 refine⟨c0Y h.1.1.2,oM,fun e he=>?_⟩;obtain⟨_,h1⟩:=a3Y h.2 he;exact b9x h1
def c9h (st:List Part) (v:ByteArray):Bool:=(!decide (v=a0O)&&(a0f st v).isSome)&&st.all fun p=>decide (upP st p.name=a0O)||decide (upP st p.name=v)
def d6p (st:List Part) (e:Evt) (d:Ivl):List Part:=st.map fun p=>if p.name=e.part∨upP st p.name=e.part then a8Y d e.use p else p
theorem d1l {st:List Part} {e:Evt} {d:Ivl} (h:c9h st e.part=true):useL st e d=d6p st e d:=by
 simp only[c9h,Bool.and_eq_true,Bool.not_eq_true',decide_eq_false_iff_not,List.all_eq_true,Bool.or_eq_true,decide_eq_true_eq]at h
 obtain⟨⟨hv,hs⟩,hall⟩:=h;unfold useL d6p;refine List.map_congr_left fun p hp=>?_
 have hi:(p.name=e.part∨a8W st e.part p.name)↔(p.name=e.part∨upP st p.name=e.part):=by
  constructor
  ·rintro (h|⟨_,k,hk⟩)
   ·exact .inl h
   ·rcases hall p hp with h0|h0
    ·cases k with
     |zero=>cases hk
     |succ k=>simp[a3a,h0]at hk
    ·exact .inr h0
  ·rintro (h|h)
   ·exact .inl h
   ·by_cases hn:p.name=e.part
    ·exact .inl hn
    ·exact .inr ⟨⟨hs,b0q (by rw[h];exact hv),hn⟩,1,by unfold a3a;rw[h];simp[hv]⟩
 by_cases hc:p.name=e.part∨upP st p.name=e.part
 ·rw[if_pos hc,if_pos (hi.2 hc)]
 ·rw[if_neg hc,if_neg (fun h=>hc (hi.1 h))]
def goC (f:Fm) (c:List Kind):List Part→Int→List Evt→Option c3R
 |s,_,[]=>some (s,-1,0)
 |s,i,e::r=>if (a0g c s e).2=0 then (if e.op=4 then (if c9h (a0g c s e).1 e.part=true then goC f c (d6p (a0g c s e).1 e (b1Y f e.use)) (i+1) r else none) else goC f c (a0g c s e).1 (i+1) r) else some ([],i,(a0g c s e).2)
theorem c1i {f:Fm} {c:List Kind}:∀(l:List Evt) {s:List Part} {i:Int} {r:c3R},goC f c s i l=some r→runLGo f c s i l=r
 | [],s,i,r,h=>by simp only[goC,Option.some.injEq]at h;exact h
 |e::l,s,i,r,h=>by
  simp only[goC]at h
  simp only[runLGo,a3h]
  split at h
  ·rename_i h0
   rw[if_pos h0];unfold applyL
   split at h
   ·rename_i h4
    rw[if_pos ⟨h0,h4⟩]
    split at h
    ·rename_i hf
     rw[d1l hf];exact c1i l h
    ·cases h
   ·rename_i h4
    rw[if_neg (fun hc=>h4 hc.2)];exact c1i l h
  ·rename_i h0
   rw[if_neg h0];exact Option.some.inj h
def d4O (f:Fm) (c:List Kind) (l:List Evt) (day:Int):Option c3R:=if (!a2p c || !a2C f)=true then some ([],-1,1) else goC f c [] 0 (a1Z (l.filter fun e=>!decide (e.day>day)))
theorem c2H {f:Fm} {c:List Kind} {l:List Evt} {day:Int} {r:c3R} (h:d4O f c l day=some r):runL f c l day=r:=by
 unfold d4O at h
 unfold runL
 split at h
 ·rename_i h1;rw[if_pos h1];exact Option.some.inj h
 ·rename_i h1;rw[if_neg h1];exact c1i _ h
theorem c7u {f:Fm} {c:List Kind}:∀(l:List Evt) (s:List Part) (i:Int),a6R (runLGo f c s i l).1≤a6R s+l.length
 | [],s,i=>Nat.le_refl _
 |e::r,s,i=>by
  simp only[runLGo]
  split
  ·rename_i h
   rw[a3h]at h
   have h1:=b3q h;have h2:=c7u (f:=f) (c:=c) r (applyL f c s e).1 (i+1)
   have h3:a6R (applyL f c s e).1=a6R (a0g c s e).1:=by
    unfold applyL
    split
    ·exact c0v
    ·rfl
   simp only[List.length_cons];omega
  ·have:a6R ([]:List Part)=0:=rfl
   show a6R []≤_
   omega
theorem c8H {f:Fm} {c:List Kind} {l:List Evt} {day:Int}:a6R (runL f c l day).1≤l.length:=by
 unfold runL
 split
 ·exact Nat.zero_le _
 ·have h:=c7u (f:=f) (c:=c) (a1Z (l.filter fun e=>!decide (e.day>day))) [] 0;rw[a4p]at h
  have h2:=List.length_filter_le (fun e:Evt=>!decide (e.day>day)) l;have h3:a6R ([]:List Part)=0:=rfl
  omega
theorem c9e {f:Fm} {c:List Kind} {l:List Evt} {day:Int} (h:l.length≤25):b1j (runL f c l day).1≤12∧(runL f c l day).1.length≤25:=by
 have h1:=c8H (f:=f) (c:=c) (l:=l) (day:=day);have h2:b1j (runL f c l day).1≤(runL f c l day).1.length:=List.length_filter_le _ _;unfold a6R at h1
 omega
theorem c1c {l:List Part} {s:ByteArray} {i:Nat} (hi:i<l.length) (h:a0f (l.drop i) s=a0f l s) (hn:¬l[i].name=s):a0f (l.drop (i+1)) s=a0f l s:=by
 rw[←h,List.drop_eq_getElem_cons hi];unfold a0f;rw[List.find?_cons_of_neg (by simpa using hn)]
theorem c4L {l:List Part} {s:ByteArray} {i:Nat} (hi:i<l.length) (h:a0f (l.drop i) s=a0f l s) (hn:l[i].name=s):a0f l s=some l[i]:=by
 rw[←h,List.drop_eq_getElem_cons hi];unfold a0f;rw[List.find?_cons_of_pos (by simpa using hn)]
theorem c4K {l:List Part} {s:ByteArray} {i:Nat} (hi:¬i<l.length) (h:a0f (l.drop i) s=a0f l s):a0f l s=none:=by
 rw[←h,List.drop_eq_nil_of_le oM];rfl
end Go.Sx
namespace Go.Proofs.YtgmkjpafapgccaaGreat
open Go Go.Sx Tryz
set_option linter.all false
set_option maxRecDepth 20000
set_option maxHeartbeats 4000000
theorem b0i (I:IMap) (N:Nat) (ih:∀(f:Fm),cntN f≤N→∀vs,FmRd I vs f→∀m:Int,0≤m→m≤1000→FnV prog 182 #[.agg vs.toArray,.int .i64 (m)] I (.int .i64 (nodesF f m))) (f:Fm) (hN:cntN f≤N+1) (vs:List Value) (hr:FmRd I vs f) (m:Int) (h0:0≤m) (h1:m≤1000) :
    FnV prog 182 #[.agg vs.toArray,.int .i64 (m)] I (.int .i64 (nodesF f m)):=by
 obtain⟨s,rfl,hs⟩:=a2b hr;obtain⟨A,c0,rfl,hA,hc,hm⟩:=hs;refine enter func182 call182 rfl ntmps182 rfl fun w0=>?_;refine go 4 fun g2=>?_
 refine go 15 ?_
 refine a0L ((0:Nat)) ((1:Int)) (fun i n=>I)
  (fun i n=>[(1,.int .i64 (m)),(2,.pointer (some ⟨g2,0,none⟩)),(5,.int .i64 (n)),(6,.int .i64 ((i:Nat):Int))])
  (fun i n=>[.blk g2 27 [ci f.op,ci f.n,.slice A f.kids.length c0]])
  (fun i n=>i≤f.kids.length∧(1≤n∧n≤m+1)∧nodesL (f.kids.drop i) n m=nodesF f m)
  (fun i n=>f.kids.length-i) ⟨Nat.zero_le _,⟨oM,oM⟩,a9U⟩ rfl sb rfl ?_
 intro i n ⟨hi,hn,hq⟩;refine gS 9 12 (fun h12 p12=>?_) fun h12 p12=>?_
 ·have hlt:i<f.kids.length:=oM;refine gC 6 (fun h16 p16=>?_) fun h16 p16=>?_
  ·have hkn:=b2x f.kids[i] (m-n) oM;refine go 9 ?_;obtain⟨b23,o23,w23,e23,c23,r23⟩:=RdA.at_ hA (i:=i) oM;replace r23:=a2b r23;obtain⟨s23,rfl,hs23⟩:=r23;refine go 6 ?_;refine a0v (ih f.kids[i] (by have:=a4H (List.getElem_mem hlt);omega) _ (a3O hs23) _ oM oM) rfl rfl ?_;refine go 11 ?_;exact a0n (i+1) (_) ⟨oM,oM,b1u hlt hq oM⟩ oM rfl sb rfl
  ·refine go 13 ?_;exact q_v (congrArg (Value.int .i64) (b1v hlt hq oM))
 ·refine go 20 ?_;exact q_v (congrArg (Value.int .i64) (b3Y oM hq))
theorem b9o (I:IMap) (f:Fm) (vs:List Value) (hr:FmRd I vs f) (m:Int) (h0:0≤m) (h1:m≤1000):FnV prog 182 #[.agg vs.toArray,.int .i64 (m)] I (.int .i64 (nodesF f m)):=by
 have key:∀(N:Nat),∀(f:Fm),cntN f≤N→∀vs,FmRd I vs f→∀m:Int,0≤m→m≤1000→FnV prog 182 #[.agg vs.toArray,.int .i64 (m)] I (.int .i64 (nodesF f m)):=by
  intro N
  induction N with
  |zero=>intro f hN;exact absurd hN (by cases f;simp[cntN])
  |succ N ih=>intro f hN vs hr m h0 h1;exact b0i I N ih f hN vs hr m h0 h1
 exact key (cntN f) f (Nat.le_refl _) vs hr m h0 h1
theorem c6d (I:IMap) (f:Fm) (vs:List Value) (hr:FmRd I vs f) :
    FnV prog 95 #[.agg vs.toArray] I (.bool (decide (nodesF f 80≤80))):=by
 have hl:=Enc.len (α:=Fm) hr;refine enter func95 call95 rfl ntmps95 rfl fun w0=>?_;refine go 4 fun g1=>?_
 refine go 5 ?_;refine o_v rfl (a3f m0 he rfl hl) ?_;refine go 1 ?_;refine cV (b9o _ f _ hr 80 oM oM) ?_;refine go 6 ?_;exact q_v rfl
theorem c6f (I:IMap) (vc:Value) (c:List Kind) (hvc:RdS I vc c) (f:Fm) (sf:Value) (hf:FmRd I [ci f.op,ci f.n,sf] f) (v:Value) (l:List Evt) (hv:RdS I v l) (n:Int) :
    FnV prog 34 #[.agg #[vc,ci f.op,ci f.n,sf],v,.int .i64 (n)] I (.bool (b5j c f l n)):=by
 have hv0:=hv;obtain⟨A,c0,rfl,hA,hc,hm⟩:=hv;refine enter func34 call34 rfl ntmps34 rfl fun w0=>?_;refine go 4 fun g3=>?_
 refine go 5 ?_;refine a1N (I':=I) (L':=[(1,.slice A l.length c0),(24,.bool (b8m c f l n))]) (H':=[]) ?_ ?_
 ·refine gS 6 13 (fun h13 p13=>?_) fun h13 p13=>?_
  ·refine go 13 ?_;refine a0a ?_;exact a0o ⟨rfl,(bB (by simp only[b8m,h13,bS])),trivial⟩ rfl rfl
  ·refine go 1 ?_;refine a0A (a0q rfl rfl h13 (a0t rfl (a1L ([vc]) m0 he rfl rfl rfl) ?_));refine go 1 ?_;refine a0q rfl rfl h13 (a0v (d3Q _ vc c hvc) rfl rfl ?_);refine gS 3 19 (fun h19 p19=>?_) fun h19 p19=>?_
   ·refine go 7 ?_;refine a0a ?_;exact a0o ⟨rfl,(bB (by simp only[b8m,h13,h19,bS])),trivial⟩ rfl rfl
   ·refine go 1 ?_;refine a0A (a0q rfl rfl h19 (a0t rfl (a1L ([ci f.op,ci f.n,sf]) m0 he rfl rfl rfl) ?_));refine go 1 ?_;refine a0q rfl rfl h19 (a0v (c6d _ f _ hf) rfl rfl ?_);refine go 4 ?_;refine a0a ?_;exact a0o ⟨rfl,(bB (by simp only[b8m,h13,h19,bS])),trivial⟩ rfl rfl
 ·refine gC 0 (fun h24 p24=>?_) fun h24 p24=>?_
  ·refine go 8 ?_;exact q_v (congrArg Value.bool (by simp only[b5j,h24];rfl))
  ·refine go 9 ?_
   refine a0x (α:=Nat) 0 (fun i=>I)
    (fun i=>[(1,.slice A l.length c0),(7,.int .i64 ((i:Nat):Int))])
    (fun i=>[])
    (fun i=>i≤l.length∧a3A (fun _ e=>a3u e) l i=true)
    (fun i=>l.length-i) ⟨Nat.zero_le _,rfl⟩ rfl sb rfl ?_
   intro i ⟨hi,hn⟩;refine gC 9 (fun h28 p28=>?_) fun h28 p28=>?_
   ·have hlt:i<l.length:=oM;refine go 8 ?_;obtain⟨b33,o33,w33,e33,c33,r33⟩:=RdA.at_ hA (i:=i) oM;obtain rfl:=r33;refine go 4 fun g8=>?_
    refine go 5 ?_;refine a1N (I':=I) (L':=[(1,.slice A l.length c0),(7,.int .i64 ((i:Nat):Int)),(68,.bool (!a3u l[i]))]) (H':=[]) ?_ ?_
    ·refine gS 6 39 (fun h39 p39=>?_) fun h39 p39=>?_
     ·refine go 31 ?_;refine a0a ?_;exact a0o ⟨rfl,rfl,(bB (by simp only[a3u,Bool.not_not,h28,h39,bS])),trivial⟩ rfl rfl
     ·refine gS 6 45 (fun h45 p45=>?_) fun h45 p45=>?_
      ·refine go 25 ?_;refine a0a ?_;exact a0o ⟨rfl,rfl,(bB (by simp only[a3u,Bool.not_not,h28,h39,h45,bS])),trivial⟩ rfl rfl
      ·refine gS 6 51 (fun h51 p51=>?_) fun h51 p51=>?_
       ·refine go 19 ?_;refine a0a ?_;exact a0o ⟨rfl,rfl,(bB (by simp only[a3u,Bool.not_not,h28,h39,h45,h51,bS])),trivial⟩ rfl rfl
       ·refine gS 6 57 (fun h57 p57=>?_) fun h57 p57=>?_
        ·refine go 13 ?_;refine a0a ?_;exact a0o ⟨rfl,rfl,(bB (by simp only[a3u,Bool.not_not,h28,h39,h45,h51,h57,bS])),trivial⟩ rfl rfl
        ·refine gS 6 63 (fun h63 p63=>?_) fun h63 p63=>?_
         ·refine go 7 ?_;refine a0a ?_;exact a0o ⟨rfl,rfl,(bB (by simp only[a3u,Bool.not_not,h28,h39,h45,h51,h57,h63,bS])),trivial⟩ rfl rfl
         ·refine go 7 ?_;refine a0a ?_;exact a0o ⟨rfl,rfl,(bB (by simp only[a3u,Bool.not_not,h28,h39,h45,h51,h57,h63,bS])),trivial⟩ rfl rfl
    ·refine gC 0 (fun h68 p68=>?_) fun h68 p68=>?_
     ·refine go 12 ?_;exact q_v (congrArg Value.bool (by simp only[b5j,a1b (f:=fun _ e=>a3u e) hlt (by simpa using h68)];simp))
     ·refine go 9 ?_;exact a0w (i+1) ⟨oM,a1l (f:=fun _ e=>a3u e) hn hlt (by simpa using h68)⟩ oM rfl sb rfl
   ·refine go 12 ?_;have e:i=l.length:=oM;subst e;exact q_v (congrArg Value.bool (by simp only[b5j,h24,hn];rfl))
theorem a9z (I:IMap) (v:Value) (l:List Part) (hv:RdS I v l) (s:ByteArray) :
    FnE prog 24 #[.agg #[v],.string s] I (PartIs I (a0f l s)):=by
 have hv0:=hv;obtain⟨A,c0,rfl,hA,hc,hm⟩:=hv;refine enter func24 call24 rfl ntmps24 rfl fun w0=>?_;refine go 4 fun g2=>?_
 refine go 2 fun g4=>?_
 refine go 13 ?_;refine a0b ?_;refine a0a ?_
 refine a0x (α:=Nat) 0 (fun i=>I)
  (fun i=>[(1,.string s),(4,.pointer (some ⟨g4,0,none⟩)),(9,.slice A l.length c0),(10,.int .i64 (l.length:Int)),(11,.int .i64 ((i:Nat):Int))])
  (fun i=>[.blk g4 85 [.string ⟨#[]⟩,.string ⟨#[]⟩,.string ⟨#[]⟩,.string ⟨#[]⟩,.int .i64 0,.int .i64 0,.bool false,.slice none 0 0,.int .i64 0,.int .i64 0,.int .i64 0,.int .i64 0,.int .i64 0,.int .i64 0]])
  (fun i=>i≤l.length∧a0f (l.drop i) s=a0f l s)
  (fun i=>l.length-i) ⟨Nat.zero_le _,rfl⟩ rfl sb rfl ?_
 intro i ⟨hi,hn⟩;refine gC 6 (fun h12 p12=>?_) fun h12 p12=>?_
 ·have hlt:i<l.length:=oM;refine go 6 ?_;obtain⟨b13,o13,w13,e13,c13,r13⟩:=RdA.at_ hA (i:=i) hlt;obtain⟨q13,rfl,B13,d13,rfl,hB13,hd13,hm13⟩:=r13;refine go 4 fun g7=>?_
  refine gC 12 (fun h18 p18=>?_) fun h18 p18=>?_
  ·refine go 4 ?_;refine a0b ?_;refine go 11 ?_;exact q_e (PartIs.of (c4L hlt hn p18) ⟨_,rfl,B13,d13,rfl,hB13,hd13,hm13⟩)
  ·refine go 8 ?_;refine a0a ?_;exact a0w (i+1) ⟨oM,c1c hlt hn p18⟩ oM rfl sb rfl
 ·refine go 15 ?_;exact q_e (PartIs.none (c4K oM hn))
end Go.Proofs.YtgmkjpafapgccaaGreat
namespace Go.Proofs
open Go.Shelf
def Tryz.layS_ren:Go.Shelf.Ren:=⟨fun|190=>78|125=>160|258=>159|128=>242|129=>243|302=>233|303=>234|304=>235|305=>236|306=>237|307=>238|308=>239|309=>240|310=>241|333=>292|329=>293|330=>294|334=>295|335=>296|336=>223|344=>333|n=>n,fun|31=>88|9=>9|3=>3|46=>274|0=>0|51=>355|53=>357|4=>4|183=>348|182=>347|131=>167|5=>5|218=>399|222=>403|228=>428|229=>429|n=>n,fun|n=>n⟩
theorem Tryz.layS:Go.Proofs.Lays.n190 Tryz.prog Tryz.layS_ren:={
 mixed:=by kernel_rfl
 f125:=Tryz.func160.trans (congrArg some (by kernel_rfl))
 f128:=Tryz.func242.trans (congrArg some (by kernel_rfl))
 f129:=Tryz.func243.trans (congrArg some (by kernel_rfl))
 f190:=Tryz.func78.trans (congrArg some (by kernel_rfl))
 f258:=Tryz.func159.trans (congrArg some (by kernel_rfl))
 f302:=Tryz.func233.trans (congrArg some (by kernel_rfl))
 f303:=Tryz.func234.trans (congrArg some (by kernel_rfl))
 f304:=Tryz.func235.trans (congrArg some (by kernel_rfl))
 f305:=Tryz.func236.trans (congrArg some (by kernel_rfl))
 f306:=Tryz.func237.trans (congrArg some (by kernel_rfl))
 f307:=Tryz.func238.trans (congrArg some (by kernel_rfl))
 f308:=Tryz.func239.trans (congrArg some (by kernel_rfl))
 f309:=Tryz.func240.trans (congrArg some (by kernel_rfl))
 f310:=Tryz.func241.trans (congrArg some (by kernel_rfl))
 f329:=Tryz.func293.trans (congrArg some (by kernel_rfl))
 f330:=Tryz.func294.trans (congrArg some (by kernel_rfl))
 f333:=Tryz.func292.trans (congrArg some (by kernel_rfl))
 f334:=Tryz.func295.trans (congrArg some (by kernel_rfl))
 f335:=Tryz.func296.trans (congrArg some (by kernel_rfl))
 f336:=Tryz.func223.trans (congrArg some (by kernel_rfl))
 f344:=Tryz.func333.trans (congrArg some (by kernel_rfl))
 t0:=Tryz.underlying0
 a0:=Tryz.isAgg0
 z0:=Tryz.sizeOf0
 v0:=Tryz.zeroValue0
 t3:=Tryz.underlying3
 a3:=Tryz.isAgg3
 z3:=Tryz.sizeOf3
 v3:=Tryz.zeroValue3
 t4:=Tryz.underlying4
 a4:=Tryz.isAgg4
 z4:=Tryz.sizeOf4
 v4:=Tryz.zeroValue4
 t5:=Tryz.underlying5
 a5:=Tryz.isAgg5
 z5:=Tryz.sizeOf5
 v5:=Tryz.zeroValue5
 t9:=Tryz.underlying9
 a9:=Tryz.isAgg9
 z9:=Tryz.sizeOf9
 v9:=Tryz.zeroValue9
 t31:=Tryz.underlying88
 a31:=Tryz.isAgg88
 z31:=Tryz.sizeOf88
 v31:=Tryz.zeroValue88
 t46:=Tryz.underlying274
 a46:=Tryz.isAgg274
 z46:=Tryz.sizeOf274
 v46:=Tryz.zeroValue274
 t51:=Tryz.underlying355
 a51:=Tryz.isAgg355
 z51:=Tryz.sizeOf355
 v51:=Tryz.zeroValue355
 t53:=Tryz.underlying357
 a53:=Tryz.isAgg357
 z53:=Tryz.sizeOf357
 v53:=Tryz.zeroValue357
 t131:=Tryz.underlying167
 a131:=Tryz.isAgg167
 z131:=Tryz.sizeOf167
 v131:=Tryz.zeroValue167
 t182:=Tryz.underlying347
 a182:=Tryz.isAgg347
 z182:=Tryz.sizeOf347
 v182:=Tryz.zeroValue347
 t183:=Tryz.underlying348
 a183:=Tryz.isAgg348
 z183:=Tryz.sizeOf348
 v183:=Tryz.zeroValue348
 t218:=Tryz.underlying399
 a218:=Tryz.isAgg399
 z218:=Tryz.sizeOf399
 v218:=Tryz.zeroValue399
 t222:=Tryz.underlying403
 a222:=Tryz.isAgg403
 z222:=Tryz.sizeOf403
 v222:=Tryz.zeroValue403
 t228:=Tryz.underlying428
 a228:=Tryz.isAgg428
 z228:=Tryz.sizeOf428
 v228:=Tryz.zeroValue428
 t229:=Tryz.underlying429
 a229:=Tryz.isAgg429
 z229:=Tryz.sizeOf429
 v229:=Tryz.zeroValue429 }
def Tryz.layF_ren:Go.Shelf.Ren:=⟨fun|6=>221|15=>160|14=>283|28=>242|29=>243|20=>322|21=>323|22=>324|23=>325|24=>326|25=>327|26=>328|27=>329|46=>345|47=>293|48=>294|49=>346|50=>347|57=>353|n=>n,fun|22=>46|24=>157|25=>256|3=>3|39=>274|0=>0|53=>355|55=>357|4=>4|46=>348|45=>347|50=>167|5=>5|9=>9|66=>399|70=>403|76=>428|77=>429|n=>n,fun|n=>n⟩
theorem Tryz.layF:Go.Proofs.SlLaysF0.n6 Tryz.prog Tryz.layF_ren:={
 mixed:=by kernel_rfl
 f6:=⟨Tryz.f221.name,by decide,Tryz.func221.trans (congrArg some (by kernel_rfl))⟩
 f14:=⟨Tryz.f283.name,by decide,Tryz.func283.trans (congrArg some (by kernel_rfl))⟩
 f15:=Tryz.func160.trans (congrArg some (by kernel_rfl))
 f20:=⟨Tryz.f322.name,by decide,Tryz.func322.trans (congrArg some (by kernel_rfl))⟩
 f21:=⟨Tryz.f323.name,by decide,Tryz.func323.trans (congrArg some (by kernel_rfl))⟩
 f22:=⟨Tryz.f324.name,by decide,Tryz.func324.trans (congrArg some (by kernel_rfl))⟩
 f23:=⟨Tryz.f325.name,by decide,Tryz.func325.trans (congrArg some (by kernel_rfl))⟩
 f24:=⟨Tryz.f326.name,by decide,Tryz.func326.trans (congrArg some (by kernel_rfl))⟩
 f25:=⟨Tryz.f327.name,by decide,Tryz.func327.trans (congrArg some (by kernel_rfl))⟩
 f26:=⟨Tryz.f328.name,by decide,Tryz.func328.trans (congrArg some (by kernel_rfl))⟩
 f27:=⟨Tryz.f329.name,by decide,Tryz.func329.trans (congrArg some (by kernel_rfl))⟩
 f28:=Tryz.func242.trans (congrArg some (by kernel_rfl))
 f29:=Tryz.func243.trans (congrArg some (by kernel_rfl))
 f46:=⟨Tryz.f345.name,by decide,Tryz.func345.trans (congrArg some (by kernel_rfl))⟩
 f47:=Tryz.func293.trans (congrArg some (by kernel_rfl))
 f48:=Tryz.func294.trans (congrArg some (by kernel_rfl))
 f49:=⟨Tryz.f346.name,by decide,Tryz.func346.trans (congrArg some (by kernel_rfl))⟩
 f50:=⟨Tryz.f347.name,by decide,Tryz.func347.trans (congrArg some (by kernel_rfl))⟩
 f57:=⟨Tryz.f353.name,by decide,Tryz.func353.trans (congrArg some (by kernel_rfl))⟩
 t0:=Tryz.underlying0
 a0:=Tryz.isAgg0
 z0:=Tryz.sizeOf0
 v0:=Tryz.zeroValue0
 t3:=Tryz.underlying3
 a3:=Tryz.isAgg3
 z3:=Tryz.sizeOf3
 v3:=Tryz.zeroValue3
 t4:=Tryz.underlying4
 a4:=Tryz.isAgg4
 z4:=Tryz.sizeOf4
 v4:=Tryz.zeroValue4
 t5:=Tryz.underlying5
 a5:=Tryz.isAgg5
 z5:=Tryz.sizeOf5
 v5:=Tryz.zeroValue5
 t9:=Tryz.underlying9
 a9:=Tryz.isAgg9
 z9:=Tryz.sizeOf9
 v9:=Tryz.zeroValue9
 t22:=Tryz.underlying46
 a22:=Tryz.isAgg46
 z22:=Tryz.sizeOf46
 v22:=Tryz.zeroValue46
 t25:=Tryz.underlying256
 a25:=Tryz.isAgg256
 z25:=Tryz.sizeOf256
 v25:=Tryz.zeroValue256
 t39:=Tryz.underlying274
 a39:=Tryz.isAgg274
 z39:=Tryz.sizeOf274
 v39:=Tryz.zeroValue274
 t45:=Tryz.underlying347
 a45:=Tryz.isAgg347
 z45:=Tryz.sizeOf347
 v45:=Tryz.zeroValue347
 t46:=Tryz.underlying348
 a46:=Tryz.isAgg348
 z46:=Tryz.sizeOf348
 v46:=Tryz.zeroValue348
 t50:=Tryz.underlying167
 a50:=Tryz.isAgg167
 z50:=Tryz.sizeOf167
 v50:=Tryz.zeroValue167
 t53:=Tryz.underlying355
 a53:=Tryz.isAgg355
 z53:=Tryz.sizeOf355
 v53:=Tryz.zeroValue355
 t55:=Tryz.underlying357
 a55:=Tryz.isAgg357
 z55:=Tryz.sizeOf357
 v55:=Tryz.zeroValue357
 t66:=Tryz.underlying399
 a66:=Tryz.isAgg399
 z66:=Tryz.sizeOf399
 v66:=Tryz.zeroValue399
 t70:=Tryz.underlying403
 a70:=Tryz.isAgg403
 z70:=Tryz.sizeOf403
 v70:=Tryz.zeroValue403
 t76:=Tryz.underlying428
 a76:=Tryz.isAgg428
 z76:=Tryz.sizeOf428
 v76:=Tryz.zeroValue428
 t77:=Tryz.underlying429
 a77:=Tryz.isAgg429
 z77:=Tryz.sizeOf429
 v77:=Tryz.zeroValue429 }
end Go.Proofs
set_option linter.all false
namespace Go.Sx
open Go
section
variable {c:List Kind} {f:Fm} {st:List Part} {l:List Evt} {p:Part} {e:Evt} {d:Ivl}
theorem c3o (hi:Inc Part.name st):Inc Part.name (useL st e d):=by
 unfold useL Inc;rw[List.pairwise_map];refine List.Pairwise.imp (fun {a b} h=>?_) hi
 split<;>split<;>exact h
end
section
variable {p:Part} {s:ByteArray} {d:Int}
end
end Go.Sx
set_option linter.all false
namespace Go.Sx
open Go
noncomputable def runsL (f:Fm) (c:List Kind):List Part→List Evt→Option (List Part)
 |st,[]=>some st
 |st,e::l=>if (a0g c st e).2=0 then runsL f c (applyL f c st e).1 l else none
section
variable {f:Fm} {c:List Kind} {D:ByteArray→Bool} {s a b:List Part} {d:Ivl} {v n:ByteArray}
theorem c7W (h:Spl D s a b) (hn:D n=true):upP s n=upP a n∧(upP a n=a0O∨D (upP a n)=true):=by
 refine⟨by unfold upP;rw[h.find hn],?_⟩;unfold upP
 cases hq:a0f a n with
 |none=>exact .inl rfl
 |some q=>exact (h.na q ((a1v h.ia).1 hq).1).2
theorem b7I (h:Spl D s a b):∀(k:Nat) (n:ByteArray),D n=true→a3a s v k n=a3a a v k n
 |0,_,_=>rfl
 |k+1,n,hn=>by
  obtain⟨h1,h2⟩:=c7W h hn
  simp only[a3a,h1]
  rcases h2 with h2|h2
  ·simp[h2]
  ·rw[b7I h k _ h2]
theorem b4u (h:Spl D s a b) (hv:D v=true):∀(k:Nat) (n:ByteArray),D n=false→a3a s v k n=false
 |0,_,_=>rfl
 |k+1,n,hn=>by
  obtain⟨h1,h2⟩:=c7W h.turn (n:=n) (by simpa using hn)
  simp only[a3a]
  rcases h2 with h2|h2
  ·rw[h1,h2];simp
  ·have h3:D (upP s n)=false:=by rw[h1];simpa using h2
   rw[b4u h hv k _ h3];have:¬upP s n=v:=fun e=>by rw[e,hv]at h3;cases h3
   simp[this]
theorem d2K (h:Spl D s a b) (hv:D v=true) (hn:D n=true):a8W s v n↔a8W a v n:=by
 unfold a8W;rw[h.find hv,h.find hn];refine and_congr_right fun _=>exists_congr fun k=>?_
 rw[b7I h k n hn]
theorem c9w (h:Spl D s a b) (hv:D v=true) (hn:D n=false):¬a8W s v n:=fun ⟨_,k,hk⟩=>by rw[b4u h hv k n hn]at hk;cases hk
theorem Spl.use (h:Spl D s a b) {e:Evt} (hv:D e.part=true):Spl D (useL s e d) (useL a e d) b:=by
 have hA:∀y∈a,(y.name=e.part∨a8W s e.part y.name)↔(y.name=e.part∨a8W a e.part y.name):=fun y hy=>by rw[d2K h hv (h.na y hy).1]
 have hB:∀y∈b,¬(y.name=e.part∨a8W s e.part y.name):=fun y hy=>by
  have hd:=(h.nb y hy).1;rintro (h1|h1)
  ·rw[h1,hv]at hd;cases hd
  ·exact c9w h hv hd h1
 refine⟨c3o h.is,c3o h.ia,h.ib,fun x=>?_,fun x hx=>?_,h.nb⟩
 ·unfold useL;rw[List.mem_map,List.mem_map]
  constructor
  ·rintro⟨y,hy,rfl⟩
   rcases (h.mem y).1 hy with hy|hy
   ·refine .inl ⟨y,hy,?_⟩
    by_cases h1:y.name=e.part∨a8W s e.part y.name
    ·rw[if_pos h1,if_pos ((hA y hy).1 h1)]
    ·rw[if_neg h1,if_neg (fun h2=>h1 ((hA y hy).2 h2))]
   ·rw[if_neg (hB y hy)];exact .inr hy
  ·rintro (⟨y,hy,rfl⟩|hx)
   ·refine⟨y,(h.mem y).2 (.inl hy),?_⟩
    by_cases h1:y.name=e.part∨a8W s e.part y.name
    ·rw[if_pos h1,if_pos ((hA y hy).1 h1)]
    ·rw[if_neg h1,if_neg (fun h2=>h1 ((hA y hy).2 h2))]
   ·exact⟨x,(h.mem x).2 (.inr hx),if_neg (hB x hx)⟩
 ·unfold useL at hx
  obtain⟨y,hy,rfl⟩:=List.mem_map.1 hx
  split
  ·exact h.na y hy
  ·exact h.na y hy
end
section
variable {f:Fm} {c:List Kind} {l:List Rep} {s:List Part} {R:Nat→Nat} {t T:List Int} {E:List Evt} {r k:Nat} {p:ByteArray} {day:Int}
end
end Go.Sx
set_option linter.all false
namespace Go.Sx
open Go
def d5E:List Ivl→Ivl
 | []=>a8V
 |x::r=>r.foldl a4v x
noncomputable def lifeA (f:Fm) (c:List Kind) (own:List Rep) (p:ByteArray) (day:Int):List (Option Part):=(d4H c own 4096).1.map fun t=>a0f (runL f c (a2f own t).1 day).1 p
def d6u (f:Fm) (c:List Kind) (l own:List Rep) (day:Int):Int:=if (!a2p c || !a2C f)=true then 1 else if (decide (day<0)||decide (day>40000))=true then 1 else d6E c l own
noncomputable def bndF (g:Option Part→Ivl) (f:Fm) (c:List Kind) (l own:List Rep) (p:ByteArray) (day:Int):Ivl×Int:=
 if d6u f c l own day≠0 then (a8V,d6u f c l own day) else if (lifeA f c own p day).any Option.isSome=false then (a8V,2) else (d5E ((lifeA f c own p day).map g),0)
def kmO (o:Option Part):Ivl:=(o.getD zPart).life.km
def cyO (o:Option Part):Ivl:=(o.getD zPart).life.cycles
def daO (o:Option Part):Ivl:=(o.getD zPart).life.damage
def d7e (s:ByteArray) (day:Int) (o:Option Part):Ivl:=match o with
 |some p=>(a3X p s day).1
 |none=>a8V
noncomputable def bndLife (f:Fm) (c:List Kind) (l own:List Rep) (p:ByteArray) (day:Int):Life×Int:=(⟨(bndF kmO f c l own p day).1,(bndF cyO f c l own p day).1,(bndF daO f c l own p day).1⟩,(bndF kmO f c l own p day).2)
noncomputable def bndVal (s:ByteArray) (f:Fm) (c:List Kind) (l own:List Rep) (p:ByteArray) (day:Int):Ivl×Int:=if a9G s=false then (a8V,15) else bndF (d7e s day) f c l own p day
section
variable {L M:List Ivl} {x:Ivl}
end
section
variable {f:Fm} {c:List Kind} {l own:List Rep} {R:Nat→Nat} {p s:ByteArray} {day:Int} {g g':Option Part→Ivl} {k:Nat}
end
end Go.Sx
set_option linter.all false
namespace Go.Sx
open Go
def bxF:Fm:=.mk 2 0 []
end Go.Sx
namespace Go.Proofs.YtgmkjpafapgccaaGreat
open Go Go.Sx Tryz
set_option linter.all false
set_option maxRecDepth 20000
set_option maxHeartbeats 4000000
theorem d2V (I:IMap) (v:Value) (l:List Rep) (hv:RdS I v l) (hl:l.length≤1000000) (hsl:∀r∈l,∀e∈r.options,SmE e) (p:ByteArray) (R:Nat→Nat) (hRt:Rts l R) :
    FnI prog 41 #[v,.string p] I (fun u J=>RdS J u (nI (ofN l R p))):=by
 refine enter func41 call41 rfl ntmps41 rfl fun w0=>?_;refine go 9 ?_;refine c9W (b8R _ _ l hv hl hsl) rfl rfl fun v13 I13 H13 j13 q13=>?_;obtain⟨w,m,F,kvs,fm,rfl,rfl,hK,hM⟩:=q13;have hR:rt F=R:=(hK.done (fun k z hk h=>⟨hk,h⟩)).uniq hRt;have hFl:=hK.len;refine go 11 ?_;refine o_v rfl (a8t m1 (a0y he) he he (p) rfl rfl rfl rfl) ?_;refine gC 14 (fun h23 p23=>?_) fun h23 p23=>?_
 ·have hq0:fm p=none:=by
    cases hq:fm p with
    |none=>rfl
    |some q=>rw[hM,hq]at h23;cases h23
  refine go 8 ?_;have hno:ofN l R p=[]:=c9Z fun k hk h=>by obtain⟨q,hq,_⟩:=hK.seen k p ⟨hk,h⟩;rw[hq0]at hq;cases hq
  exact q_i (by rw[hno];exact RdS.nil')
 ·obtain⟨q,hq⟩:∃q,fm p=some q:=by
    cases hq:fm p with
    |none=>rw[hM,hq]at h23;cases h23
    |some q=>exact⟨q,rfl⟩
  have hmg:(a3U kvs p).getD (.int .i64 0) = .int .i64 (q:Int):=by rw[hM,hq];rfl
  rw[hmg];obtain⟨hql,hqh,hqn⟩:=hK.own _ q hq;refine go 4 ?_;refine a0G 3 1 ?_;refine go 6 ?_;refine a0b ?_;refine a0J fun Aw cw hw=>?_;subst hw;refine go 6 ?_;refine a0d ?_;refine a0a ?_
  refine a5g ((0:Nat)) (F) (_) ([]) (I13) (fun i F1 v9 xs J=>J)
   (fun i F1 v9 xs J=>[(5,.slice Aw F.length cw),(7,.int .i64 ((q:Nat):Int)),(9,v9),(25,.int .i64 ((F.length:Nat):Int)),(26,.int .i64 ((i:Nat):Int))])
   (fun i F1 v9 xs J=>.row (.slice Aw F.length cw) 3 1 F.length (a9R F1).flatten :: .row v9 3 1 (a5u R i (R q)).length xs::([]:List Res))
   (fun i F1 v9 xs J=>i≤F.length∧F1.length=F.length∧Fst F1∧(∀k,rt F1 k=R k)∧ILe I13 J∧Flat J xs (nI (a5u R i (R q))))
   (fun i F1 v9 xs J=>F.length-i) ⟨Nat.zero_le _,rfl,hK.fst,fun k=>by rw[hR],ILe.refl _,.nil⟩ rfl sb rfl ?_
  intro i F1 v9 xs J ⟨hi,hF1l,hF1,hr1,hJ,hF⟩;have hml:(a5u R i (R q)).length≤i:=by unfold a5u;exact Nat.le_trans (List.length_filter_le _ _) (by rw[List.length_range];exact Nat.le_refl _)
  refine gC 6 (fun h27 p27=>?_) fun h27 p27=>?_
  ·have hlt:i<F.length:=oM;refine go 12 ?_;refine a7A (a4L F1) (by rw[a4z];exact hF1l) (fun h0 _=>oM) fun g9 cap9 rest9 hv9 hR9 hc9 hl9=>?_
   cases hv9
   refine go 3 ?_;refine a1x (hF1l▸a8L _ g9 cw F1 rest9 hR9 hF1 i oM) rfl rfl fun v31 I31 s31 j31 q31=>?_;have hF:=hF.le j31;obtain⟨G,rfl,rfl,hG,hFG,hr⟩:=q31;rw[hr1 i];refine go 3 ?_;refine a1x (hG▸a8L _ g9 cw G rest9 hR9 hFG q oM) rfl rfl fun v34 I34 s34 j34 q34=>?_;have hF:=hF.le j34;obtain⟨G2,rfl,rfl,hG2,hFG2,hr2⟩:=q34;rw[hr q,hr1 q];refine a2a (a4L G2) hR9 (by rw[a4z];omega) hc9 hl9 ?_;refine gC 3 (fun h35 p35=>?_) fun h35 p35=>?_
   ·refine go 5 fun v38=>?_
    refine go 1 ?_;refine a0d ?_;refine a0z he he rfl rfl rfl rfl rfl oM oM rfl fun v39=>?_;refine go 9 ?_;refine a0b ?_;refine a0a ?_;refine a0b ?_;exact a2M (i+1) (G2) (_) (_) (_) ⟨oM,oM,hFG2,fun k=>by rw[hr2,hr,hr1],hJ.trans (j31.trans j34),by rw[a7e,if_pos oM,d3b];exact hF.append (.one rfl)⟩ oM rfl sb (by rw[a7e,if_pos oM,List.length_append];rfl)
   ·refine go 8 ?_;exact a2M (i+1) (G2) (_) (_) (_) ⟨oM,oM,hFG2,fun k=>by rw[hr2,hr,hr1],hJ.trans (j31.trans j34),by rw[a7e,if_neg oM];exact hF⟩ oM rfl sb (by rw[a7e,if_neg oM])
  ·obtain rfl:i=F.length:=oM;refine go 13 ?_;refine a0a ?_;refine a0i (l:=nI (a5u R F.length (R q))) rfl (by rw[b7n]) hF fun I9 j9 R9=>?_;exact q_i (by rw[c1R hRt hqh hqn,←hFl];exact R9)
theorem d2E (I:IMap) (v:Value) (l:List Part) (hv:RdS I v l) (p:ByteArray) :
    FnV prog 80 #[.agg #[v],.string p] I (.string (d0D p l)):=by
 have hv0:=hv;obtain⟨A,c0,rfl,hA,hc,hm⟩:=hv;refine enter func80 call80 rfl ntmps80 rfl fun w0=>?_;refine go 4 fun g2=>?_
 refine go 7 ?_;refine a1F (d4L _ _ l hv0) rfl rfl fun v9 s9 q9=>?_;obtain⟨m9,kvs,rfl,rfl,hIx,hnd⟩:=q9;refine go 2 fun g5=>?_
 refine go 14 ?_;refine a0d ?_;refine a0a ?_;refine a0b ?_
 refine a0L ((0:Nat)) (p) (fun i q=>I)
  (fun i q=>[(1,.string q),(5,.pointer (some ⟨g5,0,none⟩)),(12,.int .i64 ((l.length:Nat):Int)),(13,.int .i64 ((i:Nat):Int))])
  (fun i q=>[.mp m9 (a1u Value.string kvs),.blk g5 165 [.slice A l.length c0,.map (some m9)]])
  (fun i q=>i≤l.length∧d0D p l=rootGo l (l.length-i) q)
  (fun i q=>l.length-i) ⟨Nat.zero_le _,rfl⟩ rfl sb rfl ?_
 intro i q ⟨hi,hr⟩;refine gC 6 (fun h14 p14=>?_) fun h14 p14=>?_
 ·have hlt:i<l.length:=oM;refine go 9 ?_;refine a7V (c4M _ _ l hv0 m9 kvs hIx q) rfl rfl fun v18 q18=>?_;obtain⟨vs18,rfl,s18,rfl,hs18⟩:=q18;refine go 5 fun g6=>?_
  refine go 1 ?_;refine a0Q _ he rfl rfl rfl rfl rfl (Enc.one (α:=Part) (I:=I) (x:=(a0f l q).getD zPart) ⟨s18,rfl,hs18⟩) ?_;refine gC 10 (fun h22 p22=>?_) fun h22 p22=>?_
  ·refine go 13 ?_;exact q_v (congrArg Value.string (by rw[hr];exact (c2E hlt (by simpa using h22)).symm))
  ·refine gC 10 (fun h25 p25=>?_) fun h25 p25=>?_
   ·refine go 14 ?_;exact q_v (congrArg Value.string (by rw[hr];exact (c2C hlt (by simpa using h22) p25).symm))
   ·refine go 14 ?_;refine a0a ?_;exact a0n (i+1) (((a0f l q).getD zPart).into) ⟨oM,by rw[hr];exact c2D hlt (by simpa using h22) p25⟩ oM rfl sb rfl
 ·refine go 12 ?_;obtain rfl:i=l.length:=oM;exact q_v (congrArg Value.string (by rw[hr,Nat.sub_self];rfl))
end Go.Proofs.YtgmkjpafapgccaaGreat
namespace Go.Proofs.YtgmkjpafapgccaaGreat
open Go Go.Sx Tryz
set_option linter.all false
set_option maxRecDepth 20000
set_option maxHeartbeats 4000000
instance:Has (a6q prog 425) (132,1):=hk
instance:Has (a6q prog 52) (245,5):=hk
instance:Has (a1g prog 245 0) (0,false,1):=hk
instance:Has (a1g prog 245 1) (1,false,1):=hk
instance:Has (a1g prog 245 2) (2,false,1):=hk
instance:Has (a1g prog 245 3) (3,false,1):=hk
instance:Has (a1g prog 245 4) (4,false,1):=hk
instance:Has (a1g prog 260 1) (1,false,1):=hk
instance:Has (a1g prog 260 2) (2,false,1):=hk
instance:Has (a1g prog 341 0) (0,true,5):=hk
instance:Has (plK prog 260) [(0,1),(1,1),(2,1)]:=hk
instance:Has (plK prog 341) [(0,5)]:=hk
instance:Has (tyK prog 132) (false,1):=hk
instance:Has (tyK prog 215) (false,1):=hk
instance:Has (tyK prog 245) (true,5):=hk
instance:Has (tyK prog 260) (true,3):=hk
instance:Has (tyK prog 341) (true,5):=hk
instance:Has (prog.underlying 257) (.map 260 4):=hk
instance:Has (prog.underlying 425) (.slice 132):=hk
instance:Has (prog.underlying 52) (.slice 245):=hk
instance:Has (a1i prog 132) [.nilFunc]:=hk
instance:Has (a1i prog 245) [.string ⟨#[]⟩,.string ⟨#[]⟩,.string ⟨#[]⟩,.int .i64 0,.int .i64 0]:=hk
instance:Has (a1i prog 260) [.string ⟨#[]⟩,.string ⟨#[]⟩,.int .i64 0]:=hk
instance:Has (a1i prog 341) [.string ⟨#[]⟩,.string ⟨#[]⟩,.string ⟨#[]⟩,.int .i64 0,.int .i64 0]:=hk
theorem b2k (I:IMap) (v:Value) (l:List Int) (hv:RdS I v l) (f:FuncId) (cs:List Value) (p:Int→Bool) (hp:∀x∈l,FnV prog f ([Value.int .i64 x]++cs).toArray I (.bool (p x))) :
    FnV prog 229 #[v,.func (.func f) #[] cs.toArray] I (.int .i64 (a4u p l)):=by
 have hv0:=hv;obtain⟨A,c0,rfl,hA,hc,hm⟩:=hv;refine enter func229 call229 rfl ntmps229 rfl fun w0=>?_;refine go 14 ?_
 refine a0x (α:=Nat) 0 (fun i=>I)
  (fun i=>[(0,.slice A l.length c0),(1,.func (.func f) #[] cs.toArray),(7,.int .i64 (l.length:Int)),(8,.int .i64 (i:Int))])
  (fun i=>[])
  (fun i=>i≤l.length∧∀j x,j<i→l[j]? = some x→p x=false)
  (fun i=>l.length-i) ⟨Nat.zero_le _,fun j x hj=>absurd hj (Nat.not_lt_zero j)⟩ rfl sb rfl ?_
 intro i ⟨hi,hn⟩;refine gC 6 (fun h9 p9=>?_) fun h9 p9=>?_
 ·have hlt:i<l.length:=oM;refine go 15 ?_;obtain⟨b14,o14,w14,e14,c14,r14⟩:=RdA.at_ hA (i:=i) hlt;obtain rfl:=r14;refine go 3 ?_;refine cV (hp _ (List.getElem_mem hlt)) ?_;refine gC 2 (fun h16 p16=>?_) fun h16 p16=>?_
  ·refine go 13 ?_;exact q_v (congrArg (Value.int .i64) (a1z hlt p16 hn).symm)
  ·refine go 8 ?_;exact a0w (i+1) ⟨oM,a1E hn hlt p16⟩ oM rfl sb rfl
 ·refine go 12 ?_;exact q_v (congrArg (Value.int .i64) (a1T (fun j x hj=>hn j x oM)).symm)
theorem a8w (I:IMap) (v:Value) (l:List Int) (hv:RdS I v l) (f:FuncId) (cs:List Value) (p:Int→Bool) (hp:∀x∈l,FnV prog f ([Value.int .i64 x]++cs).toArray I (.bool (p x))) :
    FnV prog 151 #[v,.func (.func f) #[] cs.toArray] I (.bool (l.any p)):=by
 refine enter func151 call151 rfl ntmps151 rfl fun w0=>?_;refine go 10 ?_;refine cV (b2k I v l hv f cs p hp) ?_;refine go 6 ?_;exact q_v (congrArg Value.bool (a2F p l))
theorem b2j (I:IMap) (v:Value) (l:List Fn1) (hv:RdS I v l) (f:FuncId) (cs:List Value) (p:Fn1→Bool) (hp:∀x∈l,FnV prog f ([Fn1.val x]++cs).toArray I (.bool (p x))) :
    FnV prog 349 #[v,.func (.func f) #[] cs.toArray] I (.int .i64 (a4u p l)):=by
 have hv0:=hv;obtain⟨A,c0,rfl,hA,hc,hm⟩:=hv;refine enter func349 call349 rfl ntmps349 rfl fun w0=>?_;refine go 14 ?_
 refine a0x (α:=Nat) 0 (fun i=>I)
  (fun i=>[(0,.slice A l.length c0),(1,.func (.func f) #[] cs.toArray),(7,.int .i64 (l.length:Int)),(8,.int .i64 (i:Int))])
  (fun i=>[])
  (fun i=>i≤l.length∧∀j x,j<i→l[j]? = some x→p x=false)
  (fun i=>l.length-i) ⟨Nat.zero_le _,fun j x hj=>absurd hj (Nat.not_lt_zero j)⟩ rfl sb rfl ?_
 intro i ⟨hi,hn⟩;refine gC 6 (fun h9 p9=>?_) fun h9 p9=>?_
 ·have hlt:i<l.length:=oM;refine go 15 ?_;obtain⟨b14,o14,w14,e14,c14,r14⟩:=RdA.at_ hA (i:=i) hlt;obtain rfl:=r14;refine go 3 ?_;refine cV (hp _ (List.getElem_mem hlt)) ?_;refine gC 2 (fun h16 p16=>?_) fun h16 p16=>?_
  ·refine go 13 ?_;exact q_v (congrArg (Value.int .i64) (a1z hlt p16 hn).symm)
  ·refine go 8 ?_;exact a0w (i+1) ⟨oM,a1E hn hlt p16⟩ oM rfl sb rfl
 ·refine go 12 ?_;exact q_v (congrArg (Value.int .i64) (a1T (fun j x hj=>hn j x oM)).symm)
theorem a8v (I:IMap) (v:Value) (l:List Fn1) (hv:RdS I v l) (f:FuncId) (cs:List Value) (p:Fn1→Bool) (hp:∀x∈l,FnV prog f ([Fn1.val x]++cs).toArray I (.bool (p x))) :
    FnV prog 331 #[v,.func (.func f) #[] cs.toArray] I (.bool (l.any p)):=by
 refine enter func331 call331 rfl ntmps331 rfl fun w0=>?_;refine go 10 ?_;refine cV (b2j I v l hv f cs p hp) ?_;refine go 6 ?_;exact q_v (congrArg Value.bool (a2F p l))
theorem c8U (a b:Due):eqV prog 9 260 (.agg a.cells.toArray) (.agg b.cells.toArray)=some (decide (a=b)):=by
 rw[←Due.eqB_eq]
 kernel_rfl
theorem d2P:KeyOK prog 260 b1e:=a7R (cells:=Due.cells) (by kernel_rfl) (fun p q=>c8U p q) (fun p=>by kernel_rfl) (fun p=>by simp[Due.cells,b1U,b1T])
theorem d5p (I:IMap) (x:Evt) (p:ByteArray) (day:Int) (g6 g7:Nat) (h6:ICells I g6 0 [.string p]) (h7:ICells I g7 0 [ci day]) :
    FnV prog 286 #[.agg x.cells.toArray,.pointer (some ⟨g6,0,none⟩),.pointer (some ⟨g7,0,none⟩)] I (.bool (d0d p day x)):=by
 refine enter func286 call286 rfl ntmps286 rfl fun w0=>?_;refine go 4 fun g3=>?_
 refine go 7 ?_;refine o_v rfl (a0H he rfl (h6 0 _ rfl)) ?_;refine gS 2 9 (fun h9 p9=>?_) fun h9 p9=>?_
 ·refine go 2 ?_;refine a0A (a0q rfl rfl h9 (a0t rfl (a0H he rfl (h7 0 _ rfl)) ?_));refine go 7 ?_;exact q_v (congrArg Value.bool (by simp only[d0d,h9,bS]))
 ·refine go 10 ?_;exact q_v (congrArg Value.bool (by simp only[d0d,h9,bS]))
theorem d2p (I:IMap) (x:Evt) (d:Dut) (g4:Nat) (h4:ICells I g4 0 d.cells) :
    FnV prog 288 #[.agg x.cells.toArray,.pointer (some ⟨g4,0,none⟩)] I (.bool (decide (x.op=6)&&decide (x.key=d.key))):=by
 refine enter func288 call288 rfl ntmps288 rfl fun w0=>?_;refine go 4 fun g2=>?_
 refine gS 9 7 (fun h7 p7=>?_) fun h7 p7=>?_
 ·refine go 4 ?_;refine a0A (a0q rfl rfl h7 (a0t rfl (a0H he rfl (h4 2 _ rfl)) ?_));refine go 7 ?_;exact q_v (congrArg Value.bool (by simp only[h7,bS]))
 ·refine go 12 ?_;exact q_v (congrArg Value.bool (by simp only[h7,bS]))
theorem c8R (I:IMap) (x:Evt) (d:Dut) (g4:Nat) (h4:ICells I g4 0 d.cells) :
    FnV prog 289 #[.agg x.cells.toArray,.pointer (some ⟨g4,0,none⟩)] I (.bool (decide (x.op=d.after))):=by
 refine enter func289 call289 rfl ntmps289 rfl fun w0=>?_;refine go 4 fun g2=>?_
 refine go 9 ?_;refine o_v rfl (a0H he rfl (h4 3 _ rfl)) ?_;refine go 6 ?_;exact q_v rfl
theorem d5n (I:IMap) (d:Dut) (n b:Int) (g15:Nat) (h15:ICells I g15 0 [ci b]) (hb:0≤b∧b≤40000) (hw:0≤d.within∧d.within≤40000) (g4:Nat) (h4:ICells I g4 0 d.cells) :
    FnV prog 290 #[.int .i64 (n),.pointer (some ⟨g15,0,none⟩),.pointer (some ⟨g4,0,none⟩)] I (.bool (decide (n≥b)&&decide (n≤b+d.within))):=by
 refine enter func290 call290 rfl ntmps290 rfl fun w0=>?_;refine go 8 ?_;refine o_v rfl (a0H he rfl (h15 0 _ rfl)) ?_;refine gS 2 8 (fun h8 p8=>?_) fun h8 p8=>?_
 ·refine go 1 ?_;refine a0A (a0q rfl rfl h8 (a0t rfl (a0H he rfl (h15 0 _ rfl)) ?_));refine go 2 ?_;refine a0A (a0q rfl rfl h8 (a0t rfl (a0H he rfl (h4 4 _ rfl)) ?_));refine go 8 ?_;exact q_v (congrArg Value.bool (by simp only[h8,bS]))
 ·refine go 13 ?_;exact q_v (congrArg Value.bool (by simp only[h8,bS]))
theorem d5o (I:IMap) (f:Fn1) (x:Evt) (b:Bool) (hf:FnV prog f.k ([Value.agg x.cells.toArray]++f.cs).toArray I (.bool b)) (g:Nat) (hg:ICells I g 0 x.cells) :
    FnV prog 332 #[.func (.func f.k) #[] f.cs.toArray,.pointer (some ⟨g,0,none⟩)] I (.bool (!b)):=by
 refine enter func332 call332 rfl ntmps332 rfl fun w0=>?_;refine go 8 ?_;refine o_v rfl (a0V he rfl hg rfl) ?_;refine go 1 ?_;refine cV (hf) ?_;refine go 6 ?_;exact q_v rfl
theorem c7y (I:IMap) (v:Value) (l:List Evt) (hv:RdS I v l) (hl:l.length≤1000000) (w:Value) (fs:List Fn1) (hw:RdS I w fs) (q:Fn1→Evt→Bool) (hq:∀J,ILe I J→∀f∈fs,∀x:Evt,FnV prog f.k ([Value.agg x.cells.toArray]++f.cs).toArray J (.bool (q f x))) :
    FnI prog 287 #[v,w] I (fun u J=>RdS J u (a6j fs q l)):=by
 have hv0:=hv;obtain⟨A,c0,rfl,hA,hc,hm⟩:=hv;refine enter func287 call287 rfl ntmps287 rfl fun w0=>?_;refine go 7 ?_;refine a0G 3 1 ?_;refine go 12 ?_
 refine a4G ((0:Nat)) (I) (_) ([]) (fun i J v5 xs=>J)
  (fun i J v5 xs=>[(1,w),(5,v5),(8,.slice A l.length c0),(9,.int .i64 ((l.length:Nat):Int)),(10,.int .i64 ((i:Nat):Int))])
  (fun i J v5 xs=>[.row v5 3 1 (a6j fs q (l.take i)).length xs])
  (fun i J v5 xs=>i≤l.length∧ILe I J∧Flat J xs (a6j fs q (l.take i)))
  (fun i J v5 xs=>l.length-i) ⟨Nat.zero_le _,ILe.refl _,.nil⟩ rfl sb rfl ?_
 intro i J v5 xs ⟨hi,hJ,hF⟩;have hA:=hA.le hJ;have hw:=hw.le hJ;have hdl:=c0y (fs:=fs) (q:=q) (l:=l.take i);rw[List.length_take]at hdl
 refine gC 6 (fun h11 p11=>?_) fun h11 p11=>?_
 ·have hlt:i<l.length:=oM;refine go 6 ?_;obtain⟨b12,o12,w12,e12,c12,r12⟩:=RdA.at_ hA (i:=i) hlt;obtain rfl:=r12;refine go 4 fun g7=>?_
  refine go 9 ?_;refine a0B fun Ig7 jg7 cg7=>?_;have hw:=hw.le jg7;refine cV (a8v _ w fs hw 332 [.pointer (some ⟨g7,0,none⟩)] (fun f=>!q f l[i]) (fun f hf=>d5o _ f l[i] _ (hq _ (hJ.trans jg7) f hf l[i]) g7 cg7)) ?_;refine gC 3 (fun h17 p17=>?_) fun h17 p17=>?_
  ·refine go 3 ?_;refine o_v rfl (a0H he rfl (cg7 1 _ rfl)) ?_;refine go 2 fun v21=>?_
   refine go 1 ?_;refine a0b ?_;refine a0z he he rfl rfl rfl rfl rfl oM oM rfl fun v22=>?_;refine go 9 ?_;refine a0b ?_;refine a0a ?_;exact a1V (i+1) (_) (_) (_) ⟨oM,hJ.trans jg7,by rw[b3w hlt (by rw[←a8C];exact h17)];exact (hF.le jg7).append (.one rfl)⟩ oM rfl sb (by rw[b3w hlt (by rw[←a8C];exact h17),List.length_append];rfl)
  ·refine go 8 ?_;exact a1V (i+1) (_) (_) (_) ⟨oM,hJ.trans jg7,by rw[b6I hlt (by rw[←a8C];exact h17)];exact hF.le jg7⟩ oM rfl sb (by rw[b6I hlt (by rw[←a8C];exact h17)])
 ·refine go 13 ?_;have e:i=l.length:=oM;subst e;rw[List.take_length]at hF ⊢
  refine a0i (l:=a6j fs q l) rfl rfl hF fun I9 j9 R9=>?_;exact q_i R9
theorem c8S (I:IMap) (d:Dut) (hs:d.name.size≤maxLen∧d.kind.size≤maxLen∧d.key.size≤maxLen) :
    FnV prog 225 #[.agg d.cells.toArray] I (.bool (a3e d)):=by
 refine enter func225 call225 rfl ntmps225 rfl fun w0=>?_;refine go 4 fun g1=>?_
 refine go 9 ?_;refine cV (a3n _ d.name hs.1) ?_;refine gS 1 7 (fun h7 p7=>?_) fun h7 p7=>?_
 ·refine go 4 ?_;refine a0q rfl rfl h7 (a0v (a3n _ d.kind hs.2.1) rfl rfl ?_);refine gS 2 13 (fun h13 p13=>?_) fun h13 p13=>?_
  ·refine go 4 ?_;refine a0q rfl rfl h13 (a0v (a3n _ d.key hs.2.2) rfl rfl ?_);refine gS 2 19 (fun h19 p19=>?_) fun h19 p19=>?_
   ·refine gS 6 25 (fun h25 p25=>?_) fun h25 p25=>?_
    ·refine gS 6 31 (fun h31 p31=>?_) fun h31 p31=>?_
     ·refine gS 6 37 (fun h37 p37=>?_) fun h37 p37=>?_
      ·refine go 10 ?_;exact q_v (congrArg Value.bool (by simp only[a3e,h7,h13,h19,h25,h31,h37,bS]))
      ·refine go 10 ?_;exact q_v (congrArg Value.bool (by simp only[a3e,h7,h13,h19,h25,h31,h37,bS]))
     ·refine go 16 ?_;exact q_v (congrArg Value.bool (by simp only[a3e,h7,h13,h19,h25,h31,bS]))
    ·refine go 22 ?_;exact q_v (congrArg Value.bool (by simp only[a3e,h7,h13,h19,h25,bS]))
   ·refine go 28 ?_;exact q_v (congrArg Value.bool (by simp only[a3e,h7,h13,h19,bS]))
  ·refine go 34 ?_;exact q_v (congrArg Value.bool (by simp only[a3e,h7,h13,bS]))
 ·refine go 40 ?_;exact q_v (congrArg Value.bool (by simp only[a3e,h7,bS]))
theorem d5g (I:IMap) (v:Value) (l:List Int) (hv:RdS I v l) :
    FnV prog 146 #[v] I (.int .i64 (orI l)):=by
 have hv0:=hv;obtain⟨A,c0,rfl,hA,hc,hm⟩:=hv;refine enter func146 call146 rfl ntmps146 rfl fun w0=>?_;refine go 19 ?_
 refine a0x (α:=Nat) 0 (fun i=>I)
  (fun i=>[(3,.int .i64 (0)),(6,.slice A l.length c0),(7,.int .i64 ((l.length:Nat):Int)),(8,.int .i64 ((i:Nat):Int))])
  (fun i=>[])
  (fun i=>i≤l.length∧orI l=orI (l.drop i))
  (fun i=>l.length-i) ⟨Nat.zero_le _,rfl⟩ rfl sb rfl ?_
 intro i ⟨hi,hn⟩;refine gC 6 (fun h9 p9=>?_) fun h9 p9=>?_
 ·have hlt:i<l.length:=oM;refine go 6 ?_;obtain⟨b10,o10,w10,e10,c10,r10⟩:=RdA.at_ hA (i:=i) oM;obtain rfl:=r10;refine gC 12 (fun h14 p14=>?_) fun h14 p14=>?_
  ·refine go 13 ?_;exact q_v (congrArg (Value.int .i64) (by rw[hn,d3g hlt p14]))
  ·refine go 8 ?_;exact a0w (i+1) ⟨oM,by rw[hn,d0b hlt p14]⟩ oM rfl sb rfl
 ·refine go 13 ?_;exact q_v (congrArg (Value.int .i64) (by rw[hn,List.drop_eq_nil_of_le oM];rfl))
theorem b7T (I:IMap) (v:Value) (l:List ByteArray) (xs:List Value) (hF:Flat I xs l) (hl:l.length≤1000000) :
  FnX prog 78 #[v] I [.row v 9 1 l.length xs] (fun u r=>u = .tuple #[]∧∃m ys,SrtP l m∧Flat I ys m∧r = .row v 9 1 l.length ys):=
 c6E (fun args w=>call78 args w) (fun blk off cap ss w h1 h2 h3=>Any.slices_Sort_string Tryz.layS blk off cap ss w h1 h2 h3) (b7R I) hF hl
theorem c0H {I J:IMap} (hJ:ILe I J) {d:Dut} {p:ByteArray} {day:Int} {g4 g6 g7:Nat} (c4:ICells I g4 0 d.cells) (c6:ICells I g6 0 [.string p]) (c7:ICells I g7 0 [ci day]) :
  ∀f∈[(⟨286,[.pointer (some ⟨g6,0,none⟩),.pointer (some ⟨g7,0,none⟩)]⟩:Fn1),(⟨288,[.pointer (some ⟨g4,0,none⟩)]⟩:Fn1),(⟨289,[.pointer (some ⟨g4,0,none⟩)]⟩:Fn1)],∀x:Evt,FnV prog f.k ([Value.agg x.cells.toArray]++f.cs).toArray J (.bool ((b5c d p day 286 288) f x)):=by
 intro f hf x
 rcases List.mem_cons.1 hf with rfl|hf
 ·exact d5p J x p day g6 g7 (c6.le hJ) (c7.le hJ)
 ·rcases List.mem_cons.1 hf with rfl|hf
  ·exact d2p J x d g4 (c4.le hJ)
  ·rw[List.mem_singleton.1 hf];exact c8R J x d g4 (c4.le hJ)
theorem d2o (I:IMap) (d:Dut) (v:Value) (l:List Evt) (hv:RdS I v l) (hl:l.length≤1000000) (p:ByteArray) (day:Int) (hw:0≤d.within∧d.within≤40000) (hd:∀e∈l,e.part=p→e.day≤day→0≤e.day∧e.day≤40000) :
    FnV prog 226 #[.agg d.cells.toArray,v,.string p,.int .i64 (day)] I (.tuple #[.int .i64 ((a3M (a7X d l p day)).getD 0),.bool (a3M (a7X d l p day)).isSome]):=by
 refine enter func226 call226 rfl ntmps226 rfl fun w0=>?_;refine go 4 fun g4=>?_
 refine go 2 fun g6=>?_
 refine go 2 fun g7=>?_
 refine go 17 fun v22=>?_
 refine a0i (l:=[(⟨286,[.pointer (some ⟨g6,0,none⟩),.pointer (some ⟨g7,0,none⟩)]⟩:Fn1),(⟨288,[.pointer (some ⟨g4,0,none⟩)]⟩:Fn1)]) rfl rfl (.cons rfl (.one rfl)) fun I22 j22 R22=>?_;have hv:=hv.le j22;refine go 1 ?_;refine a0d ?_;refine a0B fun Ig4 jg4 cg4=>?_
 try have hv:=hv.le jg4
 try have R22:=R22.le jg4
 try have cg4:=cg4.le jg4
 try have cg6:=cg6.le jg4
 try have cg7:=cg7.le jg4
 refine a0b ?_;refine a0B fun Ig6 jg6 cg6=>?_
 try have hv:=hv.le jg6
 try have R22:=R22.le jg6
 try have cg4:=cg4.le jg6
 try have cg6:=cg6.le jg6
 try have cg7:=cg7.le jg6
 refine a0B fun Ig7 jg7 cg7=>?_
 try have hv:=hv.le jg7
 try have R22:=R22.le jg7
 try have cg4:=cg4.le jg7
 try have cg6:=cg6.le jg7
 try have cg7:=cg7.le jg7
 refine a0p (c7y _ v l hv hl _ [(⟨286,[.pointer (some ⟨g6,0,none⟩),.pointer (some ⟨g7,0,none⟩)]⟩:Fn1),(⟨288,[.pointer (some ⟨g4,0,none⟩)]⟩:Fn1)] R22 (b5c d p day 286 288) (fun J hJ f hf x=>c0H hJ cg4 cg6 cg7 f (by revert hf;simp;rintro (h|h)<;>simp[h]) x)) rfl rfl fun v23 I23 j23 q23=>?_
 try have hv:=hv.le j23
 try have R22:=R22.le j23
 try have cg4:=cg4.le j23
 try have cg6:=cg6.le j23
 try have cg7:=cg7.le j23
 rw[c0z (by decide)]at q23
 refine go 17 fun v27=>?_
 refine a0i (l:=[(⟨286,[.pointer (some ⟨g6,0,none⟩),.pointer (some ⟨g7,0,none⟩)]⟩:Fn1),(⟨289,[.pointer (some ⟨g4,0,none⟩)]⟩:Fn1)]) rfl rfl (.cons rfl (.one rfl)) fun I27 j27 R27=>?_;have hv:=hv.le j27;have q23:=q23.le j27;have cg4:=cg4.le j27;have cg6:=cg6.le j27;have cg7:=cg7.le j27;refine go 1 ?_;refine a0p (c7y _ v l hv hl _ [(⟨286,[.pointer (some ⟨g6,0,none⟩),.pointer (some ⟨g7,0,none⟩)]⟩:Fn1),(⟨289,[.pointer (some ⟨g4,0,none⟩)]⟩:Fn1)] R27 (b5c d p day 286 288) (fun J hJ f hf x=>c0H hJ cg4 cg6 cg7 f (by revert hf;simp;rintro (h|h)<;>simp[h]) x)) rfl rfl fun v28 I28 j28 q28=>?_;have q23:=q23.le j28;have cg4:=cg4.le j28;rw[c0x (by decide) (by decide)]at q28
 obtain⟨A28,c28,rfl,hA28,_,_⟩:=q28;refine go 5 ?_
 refine a4G ((0:Nat)) ((0:Int)) (false) (I28) (fun i m fd J=>J)
  (fun i m fd J=>[(4,.pointer (some ⟨g4,0,none⟩)),(11,v23),(12,.int .i64 (m)),(13,.bool fd),(28,.slice A28 (a9i d l p day).length c28),(29,.int .i64 (((a9i d l p day).length:Nat):Int)),(30,.int .i64 ((i:Nat):Int))])
  (fun i m fd J=>[])
  (fun i m fd J=>i≤(a9i d l p day).length∧ILe I28 J∧LeastIs (a7p d l p day i) m fd)
  (fun i m fd J=>(a9i d l p day).length-i) ⟨Nat.zero_le _,ILe.refl _,LeastIs.nil⟩ rfl sb rfl ?_
 intro i m fd J ⟨hi,hJ,hL⟩;have hA28:=hA28.le hJ;have cg4:=cg4.le hJ;have q23:=q23.le hJ;refine gC 6 (fun h31 p31=>?_) fun h31 p31=>?_
 ·have hlt:i<(a9i d l p day).length:=oM;obtain⟨e0,hee,hep,hed,heb⟩:=c8p hlt;have hbd:=hd e0 hee hep hed;rw[heb]at hbd
  refine go 6 ?_;obtain⟨b32,o32,w32,e32,c32,r32⟩:=RdA.at_ hA28 (i:=i) oM;obtain rfl:=r32;refine go 4 fun g15=>?_
  refine go 9 ?_;refine a0B fun Ig15 jg15 cg15=>?_;have q23:=q23.le jg15;have hA28:=hA28.le jg15;have cg4:=cg4.le jg15;refine cV (a8w _ v23 (b5G d l p day) q23 290 [.pointer (some ⟨g15,0,none⟩),.pointer (some ⟨g4,0,none⟩)] (fun n=>decide (n≥(a9i d l p day)[i])&&decide (n≤(a9i d l p day)[i]+d.within)) (fun n hn=>d5n _ d n _ g15 cg15 hbd hw g4 cg4)) ?_;refine go 5 ?_;refine o_v rfl (a0H he rfl (cg15 0 _ rfl)) ?_;refine go 2 ?_;refine o_v rfl (a0H he rfl (cg4 4 _ rfl)) ?_;refine gS 9 44 (fun h44 p44=>?_) fun h44 p44=>?_
  ·refine gS 3 47 (fun h47 p47=>?_) fun h47 p47=>?_
   ·refine go 20 ?_;exact a1V (i+1) ((a9i d l p day)[i]+d.within) (true) (_) ⟨oM,hJ.trans jg15,by rw[a7Y hlt (by simpa[c7G]using h44)];exact hL.less (.inl (by simpa using h47))⟩ oM rfl sb rfl
   ·refine gC 7 (fun h52 p52=>?_) fun h52 p52=>?_
    ·refine go 12 ?_;exact a1V (i+1) ((a9i d l p day)[i]+d.within) (true) (_) ⟨oM,hJ.trans jg15,by rw[a7Y hlt (by simpa[c7G]using h44)];exact hL.less (.inr p52)⟩ oM rfl sb rfl
    ·refine go 8 ?_;exact a1V (i+1) (m) (fd) (_) ⟨oM,hJ.trans jg15,by rw[a7Y hlt (by simpa[c7G]using h44)];exact hL.more2 (by simpa using h47) p52⟩ oM rfl sb rfl
  ·refine go 19 ?_;exact a1V (i+1) (m) (fd) (_) ⟨oM,hJ.trans jg15,by rw[b9i hlt (by simpa[c7G]using h44)];exact hL⟩ oM rfl sb rfl
 ·refine go 15 ?_;have e:i=(a9i d l p day).length:=oM;subst e;rw[b9h]at hL
  exact a8p (by rw[←hL.val.1,←hL.val.2])
theorem c0J (I:IMap) (vd:Value) (ds:List Dut) (hds:RdS I vd ds) (hdl:ds.length≤1000000) (hsd:∀d∈ds,SmD d) (vc:Value) (c:List Kind) (hvc:RdS I vc c) (hsc:SmC c) (v:Value) (l:List Evt) (hv:RdS I v l) (hl:l.length≤1000000) (hse:∀e∈l,SmE e) (p:ByteArray) (day:Int) :
    FnH prog 148 #[vd,.agg #[vc],v,.string p,.int .i64 (day)] I [] (fun u J H2=>∃r kvs,u = .map (some r)∧H2=[.mp r (a1u b1e kvs)]∧KeysD kvs (b0Q ds c l p day)):=by
 refine enter func148 call148 rfl ntmps148 rfl fun w0=>?_;refine go 4 fun g6=>?_
 refine go 6 ?_;refine a4W (Value.string) he rfl fun r22=>?_;refine go 9 ?_;refine a0p (cAt _ vc c hvc hsc v l hv hl hse day) rfl rfl fun v27 I27 j27 q27=>?_;have hv:=hv.le j27;have hds:=hds.le j27;obtain⟨wb,rfl,hwb⟩:=q27;refine go 6 fun g12=>?_
 refine go 1 ?_;refine a0Q _ he rfl rfl rfl rfl rfl (by simp[RdS.one hwb]) ?_;refine go 9 ?_;refine a1n (a9z _ _ _ hwb p) rfl rfl fun v34 q34=>?_;obtain⟨vs34,rfl,s34,rfl,hs34⟩:=q34;refine go 5 fun g15=>?_
 refine go 1 ?_;refine a0Q _ he rfl rfl rfl rfl rfl (Enc.one (α:=Part) (x:=((a0f (a3C c l day).1 p).getD zPart)) ⟨s34,rfl,hs34⟩) ?_;refine go 5 ?_;refine a1N (I':=I27) (L':=[(0,vd),(2,v),(3,.string p),(4,.int .i64 (day)),(11,.map (some r22)),(15,.pointer (some ⟨g15,0,none⟩)),(46,.bool ((!decide ((a3C c l day).2.2=0) || !(a0f (a3C c l day).1 p).isSome)||((a0f (a3C c l day).1 p).getD zPart).scrapped))]) (H':=[.blk g15 85 (((a0f (a3C c l day).1 p).getD zPart).cells s34),.mp r22 (a1u b1e [])]) ?_ ?_
 ·refine gS 4 39 (fun h39 p39=>?_) fun h39 p39=>?_
  ·refine go 9 ?_;refine a0b ?_;refine a0a ?_;refine a0d ?_;refine a0a ?_;exact a0o ⟨rfl,rfl,rfl,rfl,rfl,rfl,(bB (by simp only[h39,bS])),trivial⟩ rfl rfl
  ·refine gS 4 43 (fun h43 p43=>?_) fun h43 p43=>?_
   ·refine go 5 ?_;refine a0b ?_;refine a0a ?_;refine a0d ?_;refine a0a ?_;exact a0o ⟨rfl,rfl,rfl,rfl,rfl,rfl,(bB (by simp only[h39,h43,bS])),trivial⟩ rfl rfl
   ·refine go 5 ?_;refine a0b ?_;refine a0a ?_;refine a0d ?_;refine a0a ?_;exact a0o ⟨rfl,rfl,rfl,rfl,rfl,rfl,(bB (by simp only[h39,h43,bS])),trivial⟩ rfl rfl
 ·refine gC 0 (fun h46 p46=>?_) fun h46 p46=>?_
  ·refine go 9 ?_;refine a0a ?_;exact a3g (fun _ m=>m) ⟨_,[],rfl,rfl,by rw[c9H h46];exact KeysD.nil⟩
  ·have hlv:=c5q h46;have hok:=(c9I hlv).1;have hda:∀e∈l,e.part=p→e.day≤day→0≤e.day∧e.day≤40000:=fun e h1 _ h2=>c8k hok h1 h2
   obtain⟨B,c1,rfl,hB,hcb,hmb⟩:=hds;refine go 11 ?_;refine a0b ?_
   refine a0L ((0:Nat)) ([]) (fun i kvs=>I27)
    (fun i kvs=>[(2,v),(3,.string p),(4,.int .i64 (day)),(11,.map (some r22)),(15,.pointer (some ⟨g15,0,none⟩)),(48,.slice B ds.length c1),(49,.int .i64 ((ds.length:Nat):Int)),(50,.int .i64 ((i:Nat):Int))])
    (fun i kvs=>[.mp r22 (a1u b1e kvs),.blk g15 85 (((a0f (a3C c l day).1 p).getD zPart).cells s34)])
    (fun i kvs=>i≤ds.length∧KeysD kvs ((ds.take i).filterMap (b2a ((a0f (a3C c l day).1 p).getD zPart).kind l p day)))
    (fun i kvs=>ds.length-i) ⟨Nat.zero_le _,KeysD.nil⟩ rfl sb rfl ?_
   intro i kvs ⟨hi,hK⟩;refine gC 6 (fun h51 p51=>?_) fun h51 p51=>?_
   ·have hlt:i<ds.length:=oM;refine go 6 ?_;obtain⟨b52,o52,w52,e52,c52,r52⟩:=RdA.at_ hB (i:=i) hlt;obtain rfl:=r52;refine go 4 fun g18=>?_
    refine go 10 fun g19=>?_
    refine go 9 ?_;refine cV (c8S _ ds[i] (hsd _ (List.getElem_mem hlt))) ?_;refine gS 2 59 (fun h59 p59=>?_) fun h59 p59=>?_
    ·refine go 19 ?_;refine a0a ?_;refine a0a ?_;exact a0n (i+1) (kvs) ⟨oM,hK.none hlt (c0K (by simpa using h59))⟩ oM rfl sb rfl
    ·refine gC 9 (fun h66 p66=>?_) fun h66 p66=>?_
     ·refine go 9 ?_;refine a0a ?_;refine a0a ?_;exact a0n (i+1) (kvs) ⟨oM,hK.none hlt (b8z (by simpa using h66))⟩ oM rfl sb rfl
     ·have hvd:a3e ds[i]=true:=by simpa using h59
      have hkd:ds[i].kind=((a0f (a3C c l day).1 p).getD zPart).kind:=by simpa using h66
      refine go 9 ?_;refine cV (d2o _ ds[i] v l hv hl p day (b4O hvd) hda) ?_;refine gC 12 (fun h75 p75=>?_) fun h75 p75=>?_
      ·refine go 9 ?_;refine a0d ?_;refine a2i (a3P kvs (⟨p,ds[i].name,(a3M (a7X ds[i] l p day)).getD 0⟩:Due) (.bool true)) (d2P) he ((⟨p,ds[i].name,(a3M (a7X ds[i] l p day)).getD 0⟩:Due)) rfl rfl rfl (rfl) ?_;refine go 8 ?_;refine a0b ?_;refine a0a ?_;refine a0b ?_;refine a0a ?_;exact a0n (i+1) (a3P kvs (⟨p,ds[i].name,(a3M (a7X ds[i] l p day)).getD 0⟩:Due) (.bool true)) ⟨oM,hK.some hlt (c0L hvd hkd h75)⟩ oM rfl sb rfl
      ·refine go 8 ?_;refine a0a ?_;refine a0a ?_;exact a0n (i+1) (kvs) ⟨oM,hK.none hlt (c4u h75)⟩ oM rfl sb rfl
   ·refine go 13 ?_;refine a0b ?_;refine a0a ?_;have e2:i=ds.length:=oM;subst e2;rw[List.take_length]at hK
    exact a3g (fun _ m=>m) ⟨_,kvs,rfl,rfl,by rw[b9g hlv];exact hK⟩
theorem d2S (I:IMap) (S:ItS) (r:Nat) (kvs:List (ByteArray×Value)) (hO0:S.Ok Value.string kvs) (hT0:S.Todo Value.string kvs) (hS0:S.seen=#[]) (g1:Nat) (c1:ICells I g1 0 [.map (some r)]) (hmp:I r=some S.mp) :
    b9N prog 228 [.pointer (some ⟨g1,0,none⟩)] I (fun _ vs (x:ByteArray)=>vs=[.string x]) (fun pre _=>pre.length<kvs.length) (fun pre=>pre.Perm (kvs.map Prod.fst)) (fun _=>True):=by
 intro ly J I1 Hc hI1 hJm hY hJ0;have c1:=c1.le hI1;have hmp:=(hI1) _ _ hmp;refine enter func228 call228 rfl ntmps228 rfl fun w0=>?_;refine go 4 ?_;refine b2B (a7K hmp) hS0 he rfl rfl fun i5=>?_;refine go 3 ?_
 refine a5g (S) (kvs) ([]) (I1) (Hc) (fun S2 todo pre I2 Hc=>I2)
  (fun S2 todo pre I2 Hc=>[(0,.func (.yield ly) #[] #[]),(5,.pointer (some ⟨i5,0,none⟩))])
  (fun S2 todo pre I2 Hc=>.any i5 (S2.it r)::Hc)
  (fun S2 todo pre I2 Hc=>ILe I1 I2∧S2.mp=S.mp∧S2.Ok Value.string kvs∧S2.Todo Value.string todo∧(pre++todo.map Prod.fst).Perm (kvs.map Prod.fst)∧J true pre I2 Hc)
  (fun S2 todo pre I2 Hc=>todo.length) ⟨ILe.refl _,rfl,hO0,hT0,.refl _,hJ0⟩ rfl sb rfl ?_
 intro S2 todo pre I2 Hc ⟨hI2,hme,hO,hT,hP,hJ⟩;have hmp2:I2 r=some S2.mp:=by rw[hme];exact hI2 _ _ hmp
 refine go 3 ?_;refine b5K (a7K hmp2) hO hT rfl rfl fun q6 S6 t6 hst he6=>?_;refine o_v rfl (a2c rfl (a7U _ _)) ?_;refine gC 3 (fun h7 p7=>?_) fun h7 p7=>?_
 ·obtain⟨e2,a,b,htd,hO1,hT1,hA1,rfl,rfl⟩:=hst.some h7;have hmp3:I2 r=some S6.mp:=by rw[he6];exact hmp2
  refine go 5 ?_;refine o_v rfl (b8f (a7K hmp3) m0 hO1 hA1 rfl) ?_;refine o_v rfl (OV.cast (u:=.string e2.1) (a2c rfl rfl) rfl) ?_;refine go 8 ?_;refine c5E (e2.1) hY (hJm _ _ _ _ _ (ILe.refl _) hJ) (rfl) ((c9C hP htd)) rfl rfl rfl fun b12 I12 Hc12 j12 hJ12=>?_;refine gC 3 (fun h13 p13=>?_) fun h13 p13=>?_
  ·have hb12:b12=false:=by simpa using h13
   refine go 5 ?_;refine a0a ?_;subst hb12;exact c2s false _ hJ12 trivial
  ·have hb12:b12=true:=by simpa using h13
   refine go 3 ?_;exact a2M (S6) (a++b) (pre++[e2.1]) (I12) (Hc12) ⟨hI2.trans j12,he6.trans hme,hO1,hT1,c1v hP htd,hb12▸hJ12⟩ (by rw[htd];simp) rfl sb rfl
 ·obtain⟨rfl,rfl,rfl⟩:=hst.none h7;refine go 5 ?_;refine a0a ?_;exact c2s true _ hJ (by simpa using hP)
theorem d5I (I:IMap) (r:Nat) :
    FnI prog 150 #[.map (some r)] I (fun u J=>∃g,u = .func (.func 228) #[] #[.pointer (some ⟨g,0,none⟩)]∧ICells J g 0 [.map (some r)]):=by
 refine enter func150 call150 rfl ntmps150 rfl fun w0=>?_;refine go 4 fun g1=>?_
 refine go 5 ?_;refine a0B fun Ig1 jg1 cg1=>?_;refine go 6 ?_;exact q_i ⟨_,rfl,cg1⟩
theorem b9V (I:IMap) (g:Nat) (Ls:List ByteArray) (hLs:Ls.length≤1000000) (hit:b9N prog 228 [.pointer (some ⟨g,0,none⟩)] I (fun _ vs (x:ByteArray)=>vs=[.string x]) (fun pre _=>pre.length<Ls.length) (fun pre=>pre.Perm Ls) (fun _=>True)) :
    FnH prog 291 #[.slice none 0 0,.func (.func 228) #[] #[.pointer (some ⟨g,0,none⟩)]] I [] (fun u J H2=>∃m,H2=[.row u 9 1 m.length (a1q m).flatten]∧m.Perm Ls):=by
 refine enter func291 call291 rfl ntmps291 rfl fun w0=>?_;refine go 4 fun g2=>?_
 refine go 6 ?_;refine a0G 9 1 ?_;refine go 4 ?_;refine a0b ?_;refine a9o (σ:=Value×List ByteArray) (ps:=[7]) (.slice none 0 0,[]) (fun ⟨v2,m⟩=>[.blk g2 88 [v2],.row v2 9 1 m.length (a1q m).flatten]) (fun pre I ⟨v2,m⟩=>m=pre) (fun _ _ _ _=>False) rfl call228 (hit) (fun I vs x h=>by rw[h];rfl) rfl (fun pre I I' s hI h=>by obtain⟨v2,m⟩:=s;exact h) (fun _ _ _ _ _ _ h=>h) (rfl) rfl ?_ ?_ ?_
 ·rintro r E1 pre x vs I1 ⟨v2,m⟩ hI1 rfl rfl hlt;refine c3b ?_;refine go 3 ?_;refine b0h ?_;refine go 6 fun v10=>?_
  refine go 1 ?_;refine a1A ?_;refine a0z he he rfl rfl rfl rfl rfl oM oM rfl fun v11=>?_;refine a0J fun A11 c11 hv11=>?_;subst hv11;refine go 1 ?_;refine a1A ?_;refine go 3 ?_;refine a0d ?_;refine a0a ?_;refine a0b ?_;refine a0b ?_;refine a0u ?_;refine a0u ?_;exact b4s ((.slice A11 (m.length+1) c11,m++[x])) (hI1) (rfl) (by show _=[Res.blk g2 88 [.slice A11 (m.length+1) c11],Res.row (.slice A11 (m.length+1) c11) 9 1 (m++[x]).length (a1q (m++[x])).flatten];rw[List.length_append,a7y,a7y,List.map_append];rfl)
 ·rintro D pre I1 ⟨v2,m⟩ hI1 hfull rfl;refine c2Y ?_;refine go 9 ?_;refine b0g ?_;refine go 1 ?_;refine a0a ?_;refine a0a ?_;exact a3g (fun _ m=>m) ⟨m,rfl,hfull⟩
 ·rintro D pre I1 s cd hI1 hpart h;exact h.elim
theorem c4m (I:IMap) (g:Nat) (Ls:List ByteArray) (hLs:Ls.length≤1000000) (hit:b9N prog 228 [.pointer (some ⟨g,0,none⟩)] I (fun _ vs (x:ByteArray)=>vs=[.string x]) (fun pre _=>pre.length<Ls.length) (fun pre=>pre.Perm Ls) (fun _=>True)) :
    FnH prog 227 #[.func (.func 228) #[] #[.pointer (some ⟨g,0,none⟩)]] I [] (fun u J H2=>∃m,H2=[.row u 9 1 m.length (a1q m).flatten]∧m.Perm Ls):=by
 refine enter func227 call227 rfl ntmps227 rfl fun w0=>?_;refine go 9 ?_;refine a5Z (b9V _ g Ls hLs hit) rfl rfl fun u4 I4 H4 j4 q4=>?_;obtain⟨m,rfl,hpm⟩:=q4;refine a6f ?_;refine go 5 ?_;exact a3g (fun _ m=>m) ⟨m,rfl,hpm⟩
theorem d0Y (I:IMap) (g:Nat) (Ls:List ByteArray) (hLs:Ls.length≤1000000) (hit:b9N prog 228 [.pointer (some ⟨g,0,none⟩)] I (fun _ vs (x:ByteArray)=>vs=[.string x]) (fun pre _=>pre.length<Ls.length) (fun pre=>pre.Perm Ls) (fun _=>True)) :
    FnI prog 149 #[.func (.func 228) #[] #[.pointer (some ⟨g,0,none⟩)]] I (fun u J=>∃m,RdS J u m∧SrtP Ls m):=by
 refine enter func149 call149 rfl ntmps149 rfl fun w0=>?_;refine go 9 ?_;refine a5Z (c4m _ g Ls hLs hit) rfl rfl fun u5 I5 H5 j5 q5=>?_;obtain⟨m0,rfl,hpm⟩:=q5;have hml:=hpm.length_eq;refine a6f ?_;refine go 7 ?_;refine a0K (b7T _ _ m0 _ (a3d _ m0).flat oM) rfl rfl fun v7 s7 q7=>?_;obtain⟨rfl,m,ys,hsr,hFm,rfl⟩:=q7;refine go 10 ?_;refine a0i (l:=m) rfl hsr.1.length_eq.symm hFm fun I9 j9 R9=>?_;exact q_i ⟨m,R9,hsr.perm hpm⟩
theorem c0I (I:IMap) (vd:Value) (ds:List Dut) (hds:RdS I vd ds) (hdl:ds.length≤1000000) (hsd:∀d∈ds,SmD d) (vc:Value) (c:List Kind) (hvc:RdS I vc c) (hsc:SmC c) (v:Value) (l:List Evt) (hv:RdS I v l) (hl:l.length≤1000000) (hse:∀e∈l,SmE e) (p:ByteArray) (day:Int) :
    FnI prog 71 #[vd,.agg #[vc],v,.string p,.int .i64 (day)] I (fun u J=>RdS J u (b2s ds c l p day)):=by
 refine enter func71 call71 rfl ntmps71 rfl fun w0=>?_;refine go 4 fun g6=>?_
 refine go 6 ?_;refine a4W (Value.string) he rfl fun r13=>?_;refine go 12 ?_;refine a5Z (c0J _ vd ds hds hdl hsd vc c hvc hsc v l hv hl hse p day) rfl rfl fun u19 I19 H19 j19 q19=>?_;obtain⟨r19,kvs,rfl,rfl,hK⟩:=q19;have hkl:=Nat.le_trans hK.len (b4l ds c l p day);refine a6f ?_;refine a4e fun S0 hO0 hT0 hS0=>?_;refine go 1 ?_;refine b2A hS0 he rfl rfl fun i20=>?_;refine go 3 ?_;refine a0u ?_;refine a0a ?_
 refine a4G (S0) (kvs) ([]) ([]) (fun S todo done ns=>I19)
  (fun S todo done ns=>[(4,.int .i64 (day)),(11,.map (some r13)),(20,.pointer (some ⟨i20,0,none⟩))])
  (fun S todo done ns=>[.any i20 (S.it r19),.any r19 S.mp,.mp r13 (a1u Value.string ns)])
  (fun S todo done ns=>S.Ok b1e kvs∧S.Todo b1e todo∧(done++todo).Perm kvs∧KeysN ns (a8z day done))
  (fun S todo done ns=>todo.length) ⟨hO0,hT0,.refl _,KeysN.nil⟩ rfl sb rfl ?_
 intro S todo done ns ⟨hO,hT,hP,hN⟩;have hdl2:=hP.length_eq;rw[List.length_append]at hdl2
 refine go 3 ?_;refine a0b ?_;refine a0b ?_;refine b7w hO hT rfl rfl fun q21 S21 t21 hst=>?_;refine o_v rfl (a2c rfl (a7U _ _)) ?_;refine gC 3 (fun h22 p22=>?_) fun h22 p22=>?_
 ·obtain⟨e2,a,b,htd,hO1,hT1,hA1,rfl,rfl⟩:=hst.some h22;refine go 5 ?_;refine o_v rfl (b2R m0 m1 hO1 hA1 rfl) ?_;refine o_v rfl (OV.cast (u:=.agg e2.1.cells.toArray) (a2c rfl rfl) rfl) ?_;refine go 2 fun g12=>?_
  refine gC 12 (fun h28 p28=>?_) fun h28 p28=>?_
  ·refine go 5 ?_;refine a0u ?_;refine a2i (a3P ns e2.1.rule (.bool true)) (a0y he) he (e2.1.rule) rfl rfl rfl (rfl) ?_;refine go 3 ?_;refine a0b ?_;refine a0a ?_;refine a0d ?_;refine a0d ?_;exact a1V (S21) (a++b) (done++[e2]) (a3P ns e2.1.rule (.bool true)) ⟨hO1,hT1,a4n hP htd,hN.yes p28⟩ (by rw[htd];simp) rfl sb rfl
  ·refine go 3 ?_;refine a0a ?_;exact a1V (S21) (a++b) (done++[e2]) (ns) ⟨hO1,hT1,a4n hP htd,hN.no p28⟩ (by rw[htd];simp) rfl sb rfl
 ·obtain⟨rfl,rfl,rfl⟩:=hst.none h22;have hdp:done.Perm kvs:=by simpa using hP
  have hnl:=hN.len;have hdl3:=hdp.length_eq;refine a0d ?_;refine a4e fun S1 hO2 hT2 hS2=>?_;refine b4H fun I8 j8 hmp=>?_;refine go 9 ?_;refine a0p (d5I _ r13) rfl rfl fun v33 I33 j33 q33=>?_;obtain⟨g33,rfl,cg33⟩:=q33;refine go 1 ?_;refine a0p (d0Y _ g33 (ns.map Prod.fst) (by rw[List.length_map];omega) (by rw[List.length_map];exact d2S _ S1 r13 ns hO2 hT2 hS2 g33 cg33 (j33 _ _ hmp))) rfl rfl fun v34 I34 j34 q34=>?_;obtain⟨m,q34,hsr⟩:=q34;refine go 5 ?_;exact q_i (by rw[c9E hK hdp hN hsr];exact q34)
end Go.Proofs.YtgmkjpafapgccaaGreat
namespace Go.Proofs.YtgmkjpafapgccaaGreat
open Go Go.Sx Tryz
set_option linter.all false
set_option maxRecDepth 20000
set_option maxHeartbeats 4000000
instance:Has (a6q prog 32) (34,6):=hk
instance:Has (a6q prog 51) (181,5):=hk
instance:Has (a6q prog 53) (102,3):=hk
theorem T.eqg_181:prog.eqGuardType prog.depth 181=false:=by kernel_rfl
instance:Has (a1g prog 102 0) (0,false,1):=hk
instance:Has (a1g prog 102 1) (1,false,1):=hk
instance:Has (a1g prog 102 2) (2,false,1):=hk
instance:Has (a1g prog 177 0) (0,true,14):=hk
instance:Has (a1g prog 181 3) (3,false,1):=hk
instance:Has (a1g prog 181 4) (4,false,1):=hk
instance:Has (a1g prog 34 0) (0,false,1):=hk
instance:Has (a1g prog 34 1) (1,false,1):=hk
instance:Has (a1g prog 34 2) (2,false,1):=hk
instance:Has (a1g prog 34 3) (3,false,1):=hk
instance:Has (a1g prog 34 4) (4,false,1):=hk
instance:Has (a1g prog 34 5) (5,false,1):=hk
instance:Has (a1g prog 36 0) (0,false,1):=hk
instance:Has (a1g prog 36 1) (1,false,1):=hk
instance:Has (a1g prog 36 2) (2,true,6):=hk
instance:Has (plK prog 177) [(0,14),(14,14)]:=hk
instance:Has (plK prog 181) [(0,1),(1,1),(2,1),(3,1),(4,1)]:=hk
instance:Has (plK prog 34) [(0,1),(1,1),(2,1),(3,1),(4,1),(5,1)]:=hk
instance:Has (tyK prog 102) (true,3):=hk
instance:Has (tyK prog 177) (true,28):=hk
instance:Has (tyK prog 181) (true,5):=hk
instance:Has (tyK prog 193) (false,1):=hk
instance:Has (tyK prog 32) (false,1):=hk
instance:Has (tyK prog 34) (true,6):=hk
instance T.und_32:Has (prog.underlying 32) (.slice 34):=hk
instance:Has (prog.underlying 51) (.slice 181):=hk
instance:Has (prog.underlying 53) (.slice 102):=hk
instance:Has (a1i prog 102) [.string ⟨#[]⟩,.string ⟨#[]⟩,.int .i64 0]:=hk
instance:Has (a1i prog 177) [.string ⟨#[]⟩,.string ⟨#[]⟩,.string ⟨#[]⟩,.string ⟨#[]⟩,.int .i64 0,.int .i64 0,.bool false,.slice none 0 0,.int .i64 0,.int .i64 0,.int .i64 0,.int .i64 0,.int .i64 0,.int .i64 0,.string ⟨#[]⟩,.string ⟨#[]⟩,.string ⟨#[]⟩,.string ⟨#[]⟩,.int .i64 0,.int .i64 0,.bool false,.slice none 0 0,.int .i64 0,.int .i64 0,.int .i64 0,.int .i64 0,.int .i64 0,.int .i64 0]:=hk
instance:Has (a1i prog 181) [.string ⟨#[]⟩,.string ⟨#[]⟩,.string ⟨#[]⟩,.string ⟨#[]⟩,.int .i64 0]:=hk
instance:Has (a1i prog 34) [.int .i64 0,.string ⟨#[]⟩,.string ⟨#[]⟩,.int .i64 0,.int .i64 0,.slice none 0 0]:=hk
theorem c1o {σ:Type} (I:IMap) (v:Value) (l:List Xp) (hv:RdS I v l) (f:FuncId) (cs:List Value) (R:σ→Res) (fo:σ→Xp→Bool×σ) (hp:∀I2,ILe I I2→∀(s:σ) (x:Xp),x∈l→∀vs,Enc.rd I2 vs x→FnG prog f ([Value.agg vs.toArray]++cs).toArray I2 (R s) fun u J r'=>u = .bool (fo s x).1∧r'=R (fo s x).2) (s:σ) :
    FnG prog 297 #[v,.func (.func f) #[] cs.toArray] I (R s) (fun u J r'=>u=ci (a2z fo s l 0).1∧r'=R (a2z fo s l 0).2):=by
 obtain⟨A,c,rfl,hA,hc,hm⟩:=hv;refine enter func297 call297 rfl ntmps297 rfl fun w0=>?_;refine go 14 ?_
 refine a3k ((0:Nat)) (s) (I) (fun i t J=>J)
  (fun i t J=>[(0,.slice A l.length c),(1,.func (.func f) #[] cs.toArray),(7,.int .i64 (l.length:Int)),(8,.int .i64 (i:Int))])
  (fun i t J=>[R t])
  (fun i t J=>i≤l.length∧ILe I J∧a2z fo s l 0=a2z fo t (l.drop i) i)
  (fun i t J=>l.length-i) ⟨Nat.zero_le _,ILe.refl _,rfl⟩ rfl sb rfl ?_
 intro i t J ⟨hi,hJ,hq⟩;have hA:=hA.le hJ;refine gC 6 (fun h9 p9=>?_) fun h9 p9=>?_
 ·have hlt:i<l.length:=oM;refine go 15 ?_;obtain⟨b14,o14,w14,e14,c14,r14⟩:=RdA.at_ hA (i:=i) hlt;refine go 1 ?_;refine o_v rfl (a0V he rfl c14 (Enc.len r14)) ?_;refine go 1 ?_;refine a1x (hp J hJ t l[i] (List.getElem_mem hlt) _ r14) rfl rfl fun v16 I16 s16 j16 q16=>?_;obtain⟨rfl,rfl⟩:=q16;refine gC 2 (fun h16 p16=>?_) fun h16 p16=>?_
  ·refine go 13 ?_;exact q_g ⟨congrArg (Value.int .i64) (by rw[hq,a8R hlt h16]),by rw[hq,a8R hlt h16]⟩
  ·refine go 8 ?_;exact a1P (i+1) ((fo t l[i]).2) (I16) ⟨oM,hJ.trans j16,hq.trans (b4B hlt h16)⟩ oM rfl sb rfl
 ·refine go 12 ?_;exact q_g ⟨congrArg (Value.int .i64) (by rw[hq,a8Q oM]),by rw[hq,a8Q oM]⟩
theorem b3s {σ:Type} (I:IMap) (v:Value) (l:List Xp) (hv:RdS I v l) (f:FuncId) (cs:List Value) (R:σ→Res) (fo:σ→Xp→Bool×σ) (hp:∀I2,ILe I I2→∀(s:σ) (x:Xp),x∈l→∀vs,Enc.rd I2 vs x→FnG prog f ([Value.agg vs.toArray]++cs).toArray I2 (R s) fun u J r'=>u = .bool (fo s x).1∧r'=R (fo s x).2) (s:σ) :
    FnG prog 245 #[v,.func (.func f) #[] cs.toArray] I (R s) (fun u J r'=>u = .bool (decide (0≤(a2z fo s l 0).1))∧r'=R (a2z fo s l 0).2):=by
 refine enter func245 call245 rfl ntmps245 rfl fun w0=>?_;refine go 10 ?_;refine a1x (c1o I v l hv f cs R fo hp s) rfl rfl fun v7 I7 s7 j7 q7=>?_;obtain⟨rfl,rfl⟩:=q7;refine go 6 ?_;exact q_g ⟨rfl,rfl⟩
theorem d0J {σ:Type} (I:IMap) (N:Nat) (f:FuncId) (cs:List Value) (R:σ→Res) (out:σ→Xp→Bool) (nx:σ→Xp→σ) (ih:∀I2,ILe I I2→∀(x:Xp),OkXp x→cntX x≤N→∀vs,XpRd I2 vs x→∀s,FnG prog 162 #[.agg vs.toArray,.func (.func f) #[] cs.toArray] I2 (R s) fun u J r'=>u = .bool (wkS out nx x s).1∧r'=R (wkS out nx x s).2) (x:Xp) (ho:OkXp x) (hN:cntX x≤N) (vs:List Value) (hx:XpRd I vs x) (g:Nat) (cg:ICells I g 0 [.func (.func f) #[] cs.toArray]) (s:σ) :
    FnG prog 246 #[.agg vs.toArray,.pointer (some ⟨g,0,none⟩)] I (R s) (fun u J r'=>u = .bool (!(wkS out nx x s).1)∧r'=R (wkS out nx x s).2):=by
 refine enter func246 call246 rfl ntmps246 rfl fun w0=>?_;refine go 4 fun g2=>?_
 refine go 5 ?_;refine o_v rfl (a3f m0 he rfl (Enc.len (α:=Xp) hx)) ?_;refine o_v rfl (a0H he rfl (cg 0 _ rfl)) ?_;refine go 1 ?_;refine a0b ?_;refine a1x (ih I (ILe.refl _) x ho hN vs hx s) rfl rfl fun v6 I6 s6 j6 q6=>?_;obtain⟨rfl,rfl⟩:=q6;refine go 6 ?_;refine a0b ?_;refine a0a ?_;exact q_g ⟨rfl,rfl⟩
theorem b6g {σ:Type} (I:IMap) (N:Nat) (f:FuncId) (cs:List Value) (R:σ→Res) (out:σ→Xp→Bool) (nx:σ→Xp→σ) (hV:∀I2,ILe I I2→∀(s:σ) (x:Xp) vs,OkXp x→XpRd I2 vs x→FnG prog f ([Value.agg vs.toArray]++cs).toArray I2 (R s) fun u J r'=>u = .bool (out s x)∧r'=R (nx s x)) (ih:∀I2,ILe I I2→∀(x:Xp),OkXp x→cntX x≤N→∀vs,XpRd I2 vs x→∀s,FnG prog 162 #[.agg vs.toArray,.func (.func f) #[] cs.toArray] I2 (R s) fun u J r'=>u = .bool (wkS out nx x s).1∧r'=R (wkS out nx x s).2) (x:Xp) (ho:OkXp x) (hN:cntX x≤N+1) (vs:List Value) (hx:XpRd I vs x) (s:σ) :
    FnG prog 162 #[.agg vs.toArray,.func (.func f) #[] cs.toArray] I (R s) (fun u J r'=>u = .bool (wkS out nx x s).1∧r'=R (wkS out nx x s).2):=by
 have hx0:=hx;obtain⟨sk,rfl,hk⟩:=b0x hx;refine enter func162 call162 rfl ntmps162 rfl fun w0=>?_;refine go 4 fun g2=>?_
 refine go 2 fun g3=>?_
 refine go 8 ?_;refine a0d ?_;refine a1x (hV I (ILe.refl _) s x _ ho hx0) rfl rfl fun v7 I7 s7 j7 q7=>?_;have hk:=hk.le j7;obtain⟨rfl,rfl⟩:=q7;refine gS 1 8 (fun h8 p8=>?_) fun h8 p8=>?_
 ·refine go 2 ?_;refine a0b ?_;refine a0B fun Ig3 jg3 cg3=>?_;have hk:=hk.le jg3;refine go 2 ?_;refine a0q rfl rfl h8 (a1x (b3s _ _ x.kids hk 246 [.pointer (some ⟨g3,0,none⟩)] R (wkF out nx) (fun I2 hI2 t k hk2 vs2 hx2=>d0J I2 N f cs R out nx (fun I3 hI3=>ih I3 ((j7.trans (jg3.trans hI2)).trans hI3)) k (ho.kid hk2) (by have:=a6S hk2;omega) vs2 hx2 g3 (cg3.le hI2) t) (nx s x)) rfl rfl (fun v12 I12 s12 j12 q12=>?_));obtain⟨rfl,rfl⟩:=q12;refine go 7 ?_;refine a0b ?_;refine a0a ?_;exact q_g ⟨congrArg Value.bool (by rw[c3F h8]),by rw[c3F h8]⟩
 ·refine go 11 ?_;refine a0b ?_;refine a0a ?_;refine a0b ?_;refine a0a ?_;exact q_g ⟨congrArg Value.bool (by rw[c8a h8]),by rw[c8a h8]⟩
theorem c7T {σ:Type} (I:IMap) (f:FuncId) (cs:List Value) (R:σ→Res) (out:σ→Xp→Bool) (nx:σ→Xp→σ) (hV:∀I2,ILe I I2→∀(s:σ) (x:Xp) vs,OkXp x→XpRd I2 vs x→FnG prog f ([Value.agg vs.toArray]++cs).toArray I2 (R s) fun u J r'=>u = .bool (out s x)∧r'=R (nx s x)) (x:Xp) (ho:OkXp x) (vs:List Value) (hx:XpRd I vs x) (s:σ) :
  FnG prog 162 #[.agg vs.toArray,.func (.func f) #[] cs.toArray] I (R s) fun u J r'=>u = .bool (wkS out nx x s).1∧r'=R (wkS out nx x s).2:=by
 have key:∀(N:Nat) (I:IMap),(∀I2,ILe I I2→∀(s:σ) (x:Xp) vs,OkXp x→XpRd I2 vs x→FnG prog f ([Value.agg vs.toArray]++cs).toArray I2 (R s) fun u J r'=>u = .bool (out s x)∧r'=R (nx s x))→∀(x:Xp),OkXp x→cntX x≤N→∀vs,XpRd I vs x→∀s,FnG prog 162 #[.agg vs.toArray,.func (.func f) #[] cs.toArray] I (R s) fun u J r'=>u = .bool (wkS out nx x s).1∧r'=R (wkS out nx x s).2:=by
  intro N
  induction N with
  |zero=>intro I _ x _ h;cases x;simp[cntX]at h
  |succ N ih=>exact fun I hV x ho hN vs hx s=>b6g I N f cs R out nx hV (fun I2 hI2 x ho h vs hx s=>ih I2 (fun I3 hI3=>hV I3 (hI2.trans hI3)) x ho h vs hx s) x ho hN vs hx s
 exact key (cntX x) I hV x ho (Nat.le_refl _) vs hx s
theorem d0I (I:IMap) (x:Xp) (vs:List Value) (hx:XpRd I vs x) (g:Nat) (n:Int) :
    FnG prog 244 #[.agg vs.toArray,.pointer (some ⟨g,0,none⟩)] I (.blk g 3 [ci n]) (fun u J r'=>u = .bool (szO n x)∧r' = .blk g 3 [ci (szN n x)]):=by
 refine enter func244 call244 rfl ntmps244 rfl fun w0=>?_;refine go 4 fun g2=>?_
 refine go 6 ?_;refine o_v rfl (c3q rfl rfl) ?_;refine go 1 ?_;refine a0b ?_;refine go 12 ?_;refine a0b ?_;refine a0a ?_;exact q_g ⟨rfl,rfl⟩
theorem d3W (I:IMap) (x:Xp) (ho:OkXp x) (vs:List Value) (hx:XpRd I vs x) :
    FnI prog 161 #[.agg vs.toArray] I (fun u J=>u=ci (c6w x)):=by
 refine enter func161 call161 rfl ntmps161 rfl fun w0=>?_;refine go 4 fun g1=>?_
 refine go 7 fun g3=>?_
 refine go 6 ?_;refine o_v rfl (a3f m1 he rfl (Enc.len (α:=Xp) hx)) ?_;refine go 2 ?_;refine a1x (c7T I 244 [.pointer (some ⟨g3,0,none⟩)] (fun n=>.blk g3 3 [ci n]) szO szN (fun I2 hI2 s x vs _ hx=>d0I I2 x vs hx g3 s) x ho vs hx 0) rfl rfl fun v6 I6 s6 j6 q6=>?_;obtain⟨rfl,rfl⟩:=q6;refine go 10 ?_;refine a0a ?_;refine a0a ?_;exact q_i rfl
theorem c6t (I:IMap) (n low:Int) :
    FnV prog 247 #[.int .i64 (n),.int .i64 (low)] I (.bool (b2y n low)):=by
 refine enter func247 call247 rfl ntmps247 rfl fun w0=>?_;refine gS 11 8 (fun h8 p8=>?_) fun h8 p8=>?_
 ·refine go 8 ?_;exact q_v (congrArg Value.bool (by unfold b2y;rw[h8];rfl))
 ·refine go 8 ?_;exact q_v (congrArg Value.bool (by unfold b2y;rw[h8];rfl))
theorem d6i (I:IMap) (s:ByteArray) :
    FnV prog 248 #[.string s] I (.bool (decide (s∈c6l))):=by
 refine enter func248 call248 rfl ntmps248 rfl fun w0=>?_;refine go 9 fun v3=>?_
 refine a0i (l:=c6l) rfl rfl ((c2V c6l)) fun I3 j3 R3=>?_;refine go 2 ?_;refine cV (a2W _ _ c6l R3 s) ?_;refine go 5 ?_;exact a8p rfl
theorem d3V (I:IMap) (x:Xp) (ho:OkXp x) (vs:List Value) (hx:XpRd I vs x) :
    FnV prog 163 #[.agg vs.toArray] I (.bool (a4l x)):=by
 obtain⟨sk,rfl,hk⟩:=b0x hx;obtain⟨A,c0,rfl,hA,hc,hm⟩:=hk;refine enter func163 call163 rfl ntmps163 rfl fun w0=>?_;refine go 4 fun g1=>?_
 refine go 10 fun g3=>?_
 refine go 25 ?_;refine c8u (Ix:=(fun k nm v n e ok=>I)) (Lx:=(fun k nm v n e ok=>[(1,.pointer (some ⟨g1,0,none⟩)),(3,.pointer (some ⟨g3,0,none⟩)),(4,.bool (k)),(5,.bool (nm)),(7,.bool (ok))])) (Hx:=(fun k nm v n e ok=>[.blk g3 34 [ci x.op,.string ⟨#[]⟩,.string v,ci n,ci e,.slice none 0 0],.blk g1 34 (x.cs (.slice A x.kids.length c0))])) (p:=(fun k nm v n e ok=>a3p x=some (k,nm,v,n,e,ok))) ?_ ?_
 ·refine gC 13 (fun h17 p17=>?_) fun h17 p17=>?_
  ·refine go 5 ?_;exact a3s (decide ((x.kids.length:Int)=0)) (false) (⟨#[]⟩) (0) (0) (true) (c9Q p17) ⟨rfl,rfl,rfl,rfl,(bB (by simp only[h17,bS,if_true,if_false,Bool.false_eq_true])),trivial⟩ rfl rfl
  ·refine gC 6 (fun h19 p19=>?_) fun h19 p19=>?_
   ·refine go 1 ?_;refine dG 0 6 ?_;refine go 3 ?_;exact a3s (decide ((x.kids.length:Int)=1)) (false) (⟨#[]⟩) (0) (0) (true) (c1N p19) ⟨rfl,rfl,rfl,rfl,(bB (by simp only[h17,h19,bS,if_true,if_false,Bool.false_eq_true])),trivial⟩ rfl rfl
   ·refine go 1 ?_;refine a1N (I':=I) (L':=[(1,.pointer (some ⟨g1,0,none⟩)),(3,.pointer (some ⟨g3,0,none⟩)),(4,.bool (decide ((x.kids.length:Int)=0))),(5,.bool (true)),(6,.func (.func 247) #[] #[]),(7,.bool (true)),(16,ci x.op),(25,.bool (decide (x.op=3)||decide (x.op=4)))]) (H':=[.blk g3 34 [ci x.op,.string ⟨#[]⟩,.string ⟨#[]⟩,ci 0,ci 0,.slice none 0 0],.blk g1 34 (x.cs (.slice A x.kids.length c0))]) ?_ ?_
    ·refine gC 6 (fun h25 p25=>?_) fun h25 p25=>?_
     ·refine go 2 ?_;exact a0o ⟨rfl,rfl,rfl,rfl,rfl,rfl,rfl,(bB (by simp only[h17,h19,h25,bS])),trivial⟩ rfl rfl
     ·refine go 5 ?_;exact a0o ⟨rfl,rfl,rfl,rfl,rfl,rfl,rfl,(bB (by simp only[h17,h19,h25,bS])),trivial⟩ rfl rfl
    ·refine gC 0 (fun h25 p25=>?_) fun h25 p25=>?_
     ·refine go 1 ?_;refine dG 0 6 ?_;refine go 3 ?_;exact a3s (decide ((x.kids.length:Int)>1)) (false) (⟨#[]⟩) (0) (0) (true) (c9R p25) ⟨rfl,rfl,rfl,rfl,(bB (by simp only[h25,bS,if_true,if_false,Bool.false_eq_true])),trivial⟩ rfl rfl
     ·refine gC 6 (fun h32 p32=>?_) fun h32 p32=>?_
      ·refine ds1 ?_;refine dG 0 7 ?_;refine dG 14 1 ?_;refine dH 7 0 ?_;refine cV (c6t _ x.n 0) ?_;refine dG 8 1 ?_;refine gS 0 42 (fun h42 p42=>?_) fun h42 p42=>?_
       ·refine dH 9 3 ?_;refine a0q rfl rfl h42 (a0v (c6t _ x.extra 0) rfl rfl ?_);refine dG 13 1 ?_;refine dH 15 0 ?_;refine go 1 ?_;refine dH 16 1 ?_;refine go 1 ?_;refine dG 18 1 ?_;refine go 3 ?_;exact a3s (decide ((x.kids.length:Int)=0)) (true) (⟨#[]⟩) (x.n) (x.extra) (b2y x.n 0&&b2y x.extra 0) (b5E p32) ⟨rfl,rfl,rfl,rfl,(bB (by simp only[h25,h32,h42,bS,if_true,if_false,Bool.false_eq_true])),trivial⟩ rfl rfl
       ·refine dG 9 5 ?_;refine dH 15 0 ?_;refine go 1 ?_;refine dH 16 1 ?_;refine go 1 ?_;refine dG 18 1 ?_;refine go 3 ?_;exact a3s (decide ((x.kids.length:Int)=0)) (true) (⟨#[]⟩) (x.n) (x.extra) (b2y x.n 0&&b2y x.extra 0) (b5E p32) ⟨rfl,rfl,rfl,rfl,(bB (by simp only[h25,h32,h42,bS,if_true,if_false,Bool.false_eq_true])),trivial⟩ rfl rfl
      ·refine gC 6 (fun h50 p50=>?_) fun h50 p50=>?_
       ·refine ds1 ?_;refine dG 0 5 ?_;refine dG 6 1 ?_;refine dH 5 0 ?_;refine cV (c6t _ x.n 0) ?_;refine dH 7 0 ?_;refine go 1 ?_;refine dG 8 1 ?_;refine go 3 ?_;exact a3s (decide ((x.kids.length:Int)=0)) (true) (⟨#[]⟩) (x.n) (0) (b2y x.n 0) (c1O p50) ⟨rfl,rfl,rfl,rfl,(bB (by simp only[h25,h32,h50,bS,if_true,if_false,Bool.false_eq_true])),trivial⟩ rfl rfl
       ·refine gC 6 (fun h59 p59=>?_) fun h59 p59=>?_
        ·refine ds1 ?_;refine dG 0 6 ?_;refine gS 0 66 (fun h66 p66=>?_) fun h66 p66=>?_
         ·refine dG 6 6 ?_;refine gS 0 72 (fun h72 p72=>?_) fun h72 p72=>?_
          ·refine dG 12 2 ?_;refine dG 17 1 ?_;refine dH 14 0 ?_;refine a0q rfl rfl h72 (a0v (d6i _ x.name) rfl rfl ?_);refine dG 15 2 ?_;refine dH 18 0 ?_;refine go 1 ?_;refine dG 19 1 ?_;refine go 3 ?_;exact a3s (decide ((x.kids.length:Int)=0)) (true) (x.value) (0) (0) ((!decide (x.value=⟨#[]⟩)&&decide (((x.value.size:Nat):Int)≤200)) && !decide (x.name∈c6l)) (b5F p59) ⟨rfl,rfl,rfl,rfl,(bB (by simp only[h25,h32,h50,h59,h66,h72,bS,if_true,if_false,Bool.false_eq_true])),trivial⟩ rfl rfl
          ·refine dH 12 6 ?_;refine go 1 ?_;refine dG 19 1 ?_;refine go 3 ?_;exact a3s (decide ((x.kids.length:Int)=0)) (true) (x.value) (0) (0) ((!decide (x.value=⟨#[]⟩)&&decide (((x.value.size:Nat):Int)≤200)) && !decide (x.name∈c6l)) (b5F p59) ⟨rfl,rfl,rfl,rfl,(bB (by simp only[h25,h32,h50,h59,h66,h72,bS,if_true,if_false,Bool.false_eq_true])),trivial⟩ rfl rfl
         ·refine dH 6 12 ?_;refine go 1 ?_;refine dG 19 1 ?_;refine go 3 ?_;exact a3s (decide ((x.kids.length:Int)=0)) (true) (x.value) (0) (0) ((!decide (x.value=⟨#[]⟩)&&decide (((x.value.size:Nat):Int)≤200)) && !decide (x.name∈c6l)) (b5F p59) ⟨rfl,rfl,rfl,rfl,(bB (by simp only[h25,h32,h50,h59,h66,bS,if_true,if_false,Bool.false_eq_true])),trivial⟩ rfl rfl
        ·refine gC 6 (fun h79 p79=>?_) fun h79 p79=>?_
         ·refine go 3 ?_;exact a3s (decide ((x.kids.length:Int)=0)) (true) (⟨#[]⟩) (0) (0) (true) (c9S p79) ⟨rfl,rfl,rfl,rfl,(bB (by simp only[h25,h32,h50,h59,h79,bS,if_true,if_false,Bool.false_eq_true])),trivial⟩ rfl rfl
         ·refine gC 6 (fun h81 p81=>?_) fun h81 p81=>?_
          ·refine ds1 ?_;refine dG 0 4 ?_;refine dG 5 1 ?_;refine dH 4 0 ?_;refine cV (a3n _ x.value ho.size.2) ?_;refine dH 6 0 ?_;refine go 1 ?_;refine dG 7 1 ?_;refine go 3 ?_;exact a3s (decide ((x.kids.length:Int)=0)) (true) (x.value) (0) (0) (a1j x.value) (c9T p81) ⟨rfl,rfl,rfl,rfl,(bB (by simp only[h25,h32,h50,h59,h79,h81,bS,if_true,if_false,Bool.false_eq_true])),trivial⟩ rfl rfl
          ·refine go 1 ?_;refine a1N (I':=I) (L':=[(1,.pointer (some ⟨g1,0,none⟩)),(3,.pointer (some ⟨g3,0,none⟩)),(4,.bool (decide ((x.kids.length:Int)=0))),(5,.bool (true)),(6,.func (.func 247) #[] #[]),(7,.bool (true)),(16,ci x.op),(89,.bool (decide (x.op=10)||decide (x.op=11)))]) (H':=[.blk g3 34 [ci x.op,.string ⟨#[]⟩,.string ⟨#[]⟩,ci 0,ci 0,.slice none 0 0],.blk g1 34 (x.cs (.slice A x.kids.length c0))]) ?_ ?_
           ·refine gC 6 (fun h89 p89=>?_) fun h89 p89=>?_
            ·refine go 2 ?_;exact a0o ⟨rfl,rfl,rfl,rfl,rfl,rfl,rfl,(bB (by simp only[h25,h32,h50,h59,h79,h81,h89,bS])),trivial⟩ rfl rfl
            ·refine go 5 ?_;exact a0o ⟨rfl,rfl,rfl,rfl,rfl,rfl,rfl,(bB (by simp only[h25,h32,h50,h59,h79,h81,h89,bS])),trivial⟩ rfl rfl
           ·refine gC 0 (fun h89 p89=>?_) fun h89 p89=>?_
            ·refine go 9 ?_;exact a3s (decide ((x.kids.length:Int)=1)) (true) (⟨#[]⟩) (0) (0) (true) (b7s p89) ⟨rfl,rfl,rfl,rfl,(bB (by simp only[h89,bS,if_true,if_false,Bool.false_eq_true])),trivial⟩ rfl rfl
            ·refine gC 6 (fun h96 p96=>?_) fun h96 p96=>?_
             ·refine ds1 ?_;refine dG 0 5 ?_;refine dG 6 1 ?_;refine dH 5 0 ?_;refine cV (c6t _ x.n 1) ?_;refine dH 7 0 ?_;refine go 1 ?_;refine dG 8 1 ?_;refine go 3 ?_;exact a3s (decide ((x.kids.length:Int)=0)) (true) (⟨#[]⟩) (x.n) (0) (b2y x.n 1) (c5A p96) ⟨rfl,rfl,rfl,rfl,(bB (by simp only[h89,h96,bS,if_true,if_false,Bool.false_eq_true])),trivial⟩ rfl rfl
             ·refine go 9 ?_;exact q_v (congrArg Value.bool (by rw[b8X (c5B oM)]))
 ·intro k nm v n e ok hT;refine go 1 ?_;refine a1N (I':=I) (L':=[(1,.pointer (some ⟨g1,0,none⟩)),(3,.pointer (some ⟨g3,0,none⟩)),(4,.bool (k)),(7,.bool ((if nm=true then ok&&a1j x.name else ok)))]) (H':=[.blk g3 34 [ci x.op,.string (if nm=true then x.name else ⟨#[]⟩),.string v,ci n,ci e,.slice none 0 0],.blk g1 34 (x.cs (.slice A x.kids.length c0))]) ?_ ?_
  ·refine gC 5 (fun h105 p105=>?_) fun h105 p105=>?_
   ·refine ds1 ?_;refine dG 0 4 ?_;refine gS 0 109 (fun h109 p109=>?_) fun h109 p109=>?_
    ·refine dG 4 2 ?_;refine dG 8 1 ?_;refine dH 6 0 ?_;refine a0q rfl rfl h109 (a0v (a3n _ x.name ho.size.1) rfl rfl ?_);refine dG 7 1 ?_;refine dH 9 0 ?_;refine go 1 ?_;refine dG 10 1 ?_;refine go 2 ?_;exact a0o ⟨rfl,rfl,rfl,(bB (by simp only[h105,h109,bS,if_true,if_false,Bool.false_eq_true])),trivial⟩ (by simp only[h105,h109,if_true,if_false,Bool.false_eq_true]<;>rfl) rfl
    ·refine dH 4 5 ?_;refine go 1 ?_;refine dG 10 1 ?_;refine go 2 ?_;exact a0o ⟨rfl,rfl,rfl,(bB (by simp only[h105,h109,bS,if_true,if_false,Bool.false_eq_true])),trivial⟩ (by simp only[h105,h109,if_true,if_false,Bool.false_eq_true]<;>rfl) rfl
   ·refine go 2 ?_;exact a0o ⟨rfl,rfl,rfl,(bB (by simp only[h105,bS,if_true,if_false,Bool.false_eq_true])),trivial⟩ (by simp only[h105,if_true,if_false,Bool.false_eq_true]<;>rfl) rfl
  ·refine gS 4 116 (fun h116 p116=>?_) fun h116 p116=>?_
   ·refine gS 3 119 (fun h119 p119=>?_) fun h119 p119=>?_
    ·refine gS 7 126 (fun h126 p126=>?_) fun h126 p126=>?_
     ·refine gS 7 133 (fun h133 p133=>?_) fun h133 p133=>?_
      ·refine gS 7 140 (fun h140 p140=>?_) fun h140 p140=>?_
       ·refine go 11 ?_;exact q_v (congrArg Value.bool (by rw[a2r hT];simp only[a9S,h116,h119,h126,h133,h140,bS]))
       ·refine go 11 ?_;exact q_v (congrArg Value.bool (by rw[a2r hT];simp only[a9S,h116,h119,h126,h133,h140,bS]))
      ·refine go 18 ?_;exact q_v (congrArg Value.bool (by rw[a2r hT];simp only[a9S,h116,h119,h126,h133,bS]))
     ·refine go 25 ?_;exact q_v (congrArg Value.bool (by rw[a2r hT];simp only[a9S,h116,h119,h126,bS]))
    ·refine go 32 ?_;exact q_v (congrArg Value.bool (by rw[a2r hT];simp only[a9S,h116,h119,bS]))
   ·refine go 35 ?_;exact q_v (congrArg Value.bool (by rw[a2r hT];simp only[a9S,h116,bS]))
theorem c2F (I:IMap) (r:Rul) (hr:a4R r) (vs:List Value) (hv:Enc.rd I vs r) :
    FnV prog 79 #[.agg vs.toArray] I (.bool (a5m r)):=by
 obtain⟨sk,rfl,hk⟩:=hv;have hx:=b2X hk;refine enter func79 call79 rfl ntmps79 rfl fun w0=>?_;refine go 4 fun g1=>?_
 refine go 8 ?_;refine cV (a3n _ r.name hr.1) ?_;refine gS 1 6 (fun h6 p6=>?_) fun h6 p6=>?_
 ·refine go 3 ?_;refine a0q rfl rfl h6 (a0v (a3n _ r.kind hr.2.1) rfl rfl ?_);refine gS 2 11 (fun h11 p11=>?_) fun h11 p11=>?_
  ·refine go 1 ?_;refine a0A (a0q rfl rfl h11 (a0t rfl (a1L (r.cond.cs sk) m0 he rfl rfl rfl) ?_));refine go 1 ?_;refine a0q rfl rfl h11 (a0p (d3W _ r.cond hr.2.2 _ hx) rfl rfl (fun v14 I14 j14 q14=>?_));have hx:=hx.le j14;obtain rfl:=q14;refine gS 3 17 (fun h17 p17=>?_) fun h17 p17=>?_
   ·refine go 1 ?_;refine a0A (a0q rfl rfl h17 (a0t rfl (a1L (r.cond.cs sk) m0 he rfl rfl rfl) ?_));refine go 1 ?_;refine a0G 0 0 ?_;refine a0q rfl rfl h17 (a1x (c7T _ 163 [] (fun (_:Unit)=>.row (.slice none 0 0) 0 0 0 []) (fun _ x=>a4l x) (fun s _=>s) (fun I2 hI2 s x vs ho hx=>FnG.of_V (d3V I2 x ho vs hx)) r.cond hr.2.2 _ hx ()) rfl rfl (fun v20 I20 s20 j20 q20=>?_));obtain⟨rfl,rfl⟩:=q20;refine go 6 ?_;exact a8p (congrArg Value.bool (by simp only[a5m,b1P,←wk_all _ _ (),h6,h11,h17,bS]))
   ·refine go 9 ?_;exact a8p (congrArg Value.bool (by simp only[a5m,b1P,←wk_all _ _ (),h6,h11,h17,bS]))
  ·refine go 15 ?_;exact a8p (congrArg Value.bool (by simp only[a5m,b1P,←wk_all _ _ (),h6,h11,bS]))
 ·refine go 20 ?_;exact a8p (congrArg Value.bool (by simp only[a5m,b1P,←wk_all _ _ (),h6,bS]))
theorem a9H (I:IMap) (t:Int) :
    FnV prog 249 #[.int .i64 (t)] I (.int .i64 (trT t)):=by
 refine enter func249 call249 rfl ntmps249 rfl fun w0=>?_;refine gC 19 (fun h4 p4=>?_) fun h4 p4=>?_
 ·refine gC 2 (fun h4 p4=>?_) fun h4 p4=>?_
  ·refine go 10 ?_;exact q_v (congrArg (Value.int .i64) (by unfold trT;rw[if_pos oM]))
  ·refine go 10 ?_;exact q_v (congrArg (Value.int .i64) (by unfold trT;rw[if_neg oM]))
 ·refine gC 5 (fun h4 p4=>?_) fun h4 p4=>?_
  ·refine go 10 ?_;exact q_v (congrArg (Value.int .i64) (by unfold trT;rw[if_pos oM]))
  ·refine go 10 ?_;exact q_v (congrArg (Value.int .i64) (by unfold trT;rw[if_neg oM]))
theorem d2N (I:IMap) (t:Int) :
    FnV prog 166 #[.int .i64 (t)] I (.int .i64 (d3d t)):=by
 have ht:=b4J t;refine enter func166 call166 rfl ntmps166 rfl fun w0=>?_;refine go 9 ?_;refine cV (a9H _ t) ?_;refine go 6 ?_;exact q_v rfl
theorem d2M (I:IMap) (a b:Int) :
    FnV prog 167 #[.int .i64 (a),.int .i64 (b)] I (.int .i64 (b3e a b)):=by
 refine enter func167 call167 rfl ntmps167 rfl fun w0=>?_;refine go 9 ?_;refine cV (a9H _ a) ?_;refine go 2 ?_;refine cV (a9H _ b) ?_;refine o_v rfl (d4n rfl rfl) ?_;refine go 5 ?_;exact q_v (congrArg (Value.int .i64) (by unfold b3e;split<;>omega))
theorem d6y (I:IMap) (a b:Int) :
    FnV prog 168 #[.int .i64 (a),.int .i64 (b)] I (.int .i64 (orT a b)):=by
 refine enter func168 call168 rfl ntmps168 rfl fun w0=>?_;refine go 9 ?_;refine cV (a9H _ a) ?_;refine go 2 ?_;refine cV (a9H _ b) ?_;refine o_v rfl (d1t rfl rfl) ?_;refine go 5 ?_;exact q_v (congrArg (Value.int .i64) (by unfold orT;split<;>omega))
theorem b2u (I:IMap) (b:Bool) :
    FnV prog 171 #[.bool b] I (.int .i64 (c6U b)):=by
 refine enter func171 call171 rfl ntmps171 rfl fun w0=>?_;refine gC 11 (fun h3 p3=>?_) fun h3 p3=>?_
 ·refine go 8 ?_;exact q_v (congrArg (Value.int .i64) (by rw[h3];rfl))
 ·refine go 9 ?_;exact q_v (congrArg (Value.int .i64) (by rw[h3];rfl))
theorem c6z (I:IMap) (v:Value) (l:List Cnc) (hv:RdS I v l) (f:FuncId) (cs:List Value) (p:Cnc→Bool) (hp:∀x∈l,∀vs,Enc.rd I vs x→FnV prog f ([Value.agg vs.toArray]++cs).toArray I (.bool (p x))) :
    FnV prog 82 #[v,.func (.func f) #[] cs.toArray] I (.bool (l.any p)):=by
 obtain⟨A,c,rfl,hA,hc,hm⟩:=hv;refine enter func82 call82 rfl ntmps82 rfl fun w0=>?_;refine go 14 ?_
 refine a0x (α:=Nat) 0 (fun i=>I)
  (fun i=>[(0,.slice A l.length c),(1,.func (.func f) #[] cs.toArray),(7,.slice A l.length c),(8,.int .i64 (l.length:Int)),(9,.int .i64 (i:Int))])
  (fun i=>[])
  (fun i=>i≤l.length∧∀j x,j<i→l[j]? = some x→p x=false)
  (fun i=>l.length-i) ⟨Nat.zero_le _,fun j x hj=>absurd hj (Nat.not_lt_zero j)⟩ rfl sb rfl ?_
 intro i ⟨hi,hn⟩;refine gC 6 (fun h10 p10=>?_) fun h10 p10=>?_
 ·have hlt:i<l.length:=oM;refine go 6 ?_;obtain⟨b11,o11,w11,e11,c11,r11⟩:=RdA.at_ hA (i:=i) hlt;refine go 1 ?_;refine o_v rfl (a0V he rfl c11 (Enc.len r11)) ?_;refine go 2 fun g6=>?_
  refine go 1 ?_;refine a0Q _ he rfl rfl rfl (Enc.len r11) rfl (Enc.one r11) ?_;refine go 5 ?_;refine o_v rfl (a3f m0 he rfl (Enc.len r11)) ?_;refine go 1 ?_;refine cV (hp _ (List.getElem_mem hlt) _ r11) ?_;refine gC 2 (fun h15 p15=>?_) fun h15 p15=>?_
  ·refine go 12 ?_;exact q_v (congrArg Value.bool (b1S hlt p15).symm)
  ·refine go 8 ?_;refine a0a ?_;exact a0w (i+1) ⟨oM,a1E hn hlt p15⟩ oM rfl sb rfl
 ·refine go 12 ?_;exact q_v (congrArg Value.bool (b4V hn oM).symm)
theorem c6A (I:IMap) (v:Value) (l:List Sbu) (hv:RdS I v l) (f:FuncId) (cs:List Value) (p:Sbu→Bool) (hp:∀x∈l,∀vs,Enc.rd I vs x→FnV prog f ([Value.agg vs.toArray]++cs).toArray I (.bool (p x))) :
    FnV prog 85 #[v,.func (.func f) #[] cs.toArray] I (.bool (l.any p)):=by
 obtain⟨A,c,rfl,hA,hc,hm⟩:=hv;refine enter func85 call85 rfl ntmps85 rfl fun w0=>?_;refine go 14 ?_
 refine a0x (α:=Nat) 0 (fun i=>I)
  (fun i=>[(0,.slice A l.length c),(1,.func (.func f) #[] cs.toArray),(7,.slice A l.length c),(8,.int .i64 (l.length:Int)),(9,.int .i64 (i:Int))])
  (fun i=>[])
  (fun i=>i≤l.length∧∀j x,j<i→l[j]? = some x→p x=false)
  (fun i=>l.length-i) ⟨Nat.zero_le _,fun j x hj=>absurd hj (Nat.not_lt_zero j)⟩ rfl sb rfl ?_
 intro i ⟨hi,hn⟩;refine gC 6 (fun h10 p10=>?_) fun h10 p10=>?_
 ·have hlt:i<l.length:=oM;refine go 6 ?_;obtain⟨b11,o11,w11,e11,c11,r11⟩:=RdA.at_ hA (i:=i) hlt;refine go 1 ?_;refine o_v rfl (a0V he rfl c11 (Enc.len r11)) ?_;refine go 2 fun g6=>?_
  refine go 1 ?_;refine a0Q _ he rfl rfl rfl (Enc.len r11) rfl (Enc.one r11) ?_;refine go 5 ?_;refine o_v rfl (a3f m0 he rfl (Enc.len r11)) ?_;refine go 1 ?_;refine cV (hp _ (List.getElem_mem hlt) _ r11) ?_;refine gC 2 (fun h15 p15=>?_) fun h15 p15=>?_
  ·refine go 12 ?_;exact q_v (congrArg Value.bool (b1S hlt p15).symm)
  ·refine go 8 ?_;refine a0a ?_;exact a0w (i+1) ⟨oM,a1E hn hlt p15⟩ oM rfl sb rfl
 ·refine go 12 ?_;exact q_v (congrArg Value.bool (b4V hn oM).symm)
theorem c2O (I:IMap) (v:Value) (l:List Part) (hv:RdS I v l) (f:FuncId) (cs:List Value) (p:Part→Bool) (hp:∀x∈l,∀vs,Enc.rd I vs x→FnV prog f ([Value.agg vs.toArray]++cs).toArray I (.bool (p x))) :
    FnV prog 179 #[v,.func (.func f) #[] cs.toArray] I (.bool (l.any p)):=by
 obtain⟨A,c,rfl,hA,hc,hm⟩:=hv;refine enter func179 call179 rfl ntmps179 rfl fun w0=>?_;refine go 14 ?_
 refine a0x (α:=Nat) 0 (fun i=>I)
  (fun i=>[(0,.slice A l.length c),(1,.func (.func f) #[] cs.toArray),(7,.slice A l.length c),(8,.int .i64 (l.length:Int)),(9,.int .i64 (i:Int))])
  (fun i=>[])
  (fun i=>i≤l.length∧∀j x,j<i→l[j]? = some x→p x=false)
  (fun i=>l.length-i) ⟨Nat.zero_le _,fun j x hj=>absurd hj (Nat.not_lt_zero j)⟩ rfl sb rfl ?_
 intro i ⟨hi,hn⟩;refine gC 6 (fun h10 p10=>?_) fun h10 p10=>?_
 ·have hlt:i<l.length:=oM;refine go 6 ?_;obtain⟨b11,o11,w11,e11,c11,r11⟩:=RdA.at_ hA (i:=i) hlt;refine go 1 ?_;refine o_v rfl (a0V he rfl c11 (Enc.len r11)) ?_;refine go 2 fun g6=>?_
  refine go 1 ?_;refine a0Q _ he rfl rfl rfl (Enc.len r11) rfl (Enc.one r11) ?_;refine go 5 ?_;refine o_v rfl (a3f m0 he rfl (Enc.len r11)) ?_;refine go 1 ?_;refine cV (hp _ (List.getElem_mem hlt) _ r11) ?_;refine gC 2 (fun h15 p15=>?_) fun h15 p15=>?_
  ·refine go 12 ?_;exact q_v (congrArg Value.bool (b1S hlt p15).symm)
  ·refine go 8 ?_;refine a0a ?_;exact a0w (i+1) ⟨oM,a1E hn hlt p15⟩ oM rfl sb rfl
 ·refine go 12 ?_;exact q_v (congrArg Value.bool (b4V hn oM).symm)
theorem d5i (I:IMap) (x:Cnc) (p r:ByteArray) (day:Int) (g5 g6 g7:Nat) (c5:ICells I g5 0 [.string p]) (c6:ICells I g6 0 [.string r]) (c7:ICells I g7 0 [.int .i64 (day)]) :
    FnV prog 83 #[.agg x.cells.toArray,.pointer (some ⟨g5,0,none⟩),.pointer (some ⟨g6,0,none⟩),.pointer (some ⟨g7,0,none⟩)] I (.bool (b1c p r day x)):=by
 refine enter func83 call83 rfl ntmps83 rfl fun w0=>?_;refine go 4 fun g4=>?_
 refine gS 10 10 (fun h10 p10=>?_) fun h10 p10=>?_
 ·refine gS 6 16 (fun h16 p16=>?_) fun h16 p16=>?_
  ·refine go 10 ?_;exact q_v (congrArg Value.bool (by simp only[b1c,h10,h16,bS]))
  ·refine go 10 ?_;exact q_v (congrArg Value.bool (by simp only[b1c,h10,h16,bS]))
 ·refine go 16 ?_;exact q_v (congrArg Value.bool (by simp only[b1c,h10,bS]))
theorem c4k (I:IMap) (v:Value) (l:List Cnc) (hv:RdS I v l) (p r:ByteArray) (day:Int) :
    FnV prog 27 #[v,.string p,.string r,.int .i64 (day)] I (.bool (c0X l p r day)):=by
 refine enter func27 call27 rfl ntmps27 rfl fun w0=>?_;refine go 4 fun g5=>?_
 refine go 2 fun g6=>?_
 refine go 2 fun g7=>?_
 refine go 6 ?_;refine a0d ?_;refine a0B fun Ig5 jg5 cg5=>?_;have hv:=hv.le jg5;refine a0b ?_;refine a0B fun Ig6 jg6 cg6=>?_;have hv:=hv.le jg6;have cg5:=cg5.le jg6;refine a0B fun Ig7 jg7 cg7=>?_;have hv:=hv.le jg7;have cg5:=cg5.le jg7;have cg6:=cg6.le jg7;refine go 2 ?_;refine cV (c6z _ v l hv 83 [.pointer (some ⟨g5,0,none⟩),.pointer (some ⟨g6,0,none⟩),.pointer (some ⟨g7,0,none⟩)] (b1c p r day) (fun x _ vs hx=>by cases hx;exact d5i _ x p r day g5 g6 g7 cg5 cg6 cg7)) ?_;refine go 5 ?_;exact a8p rfl
theorem c0l (I:IMap) (vc:Value) (c:List Kind) (hvc:RdS I vc c) (k s p:ByteArray) :
    FnV prog 84 #[.agg #[vc],.string k,.string s,.string p] I (.bool (a6F c k s p)):=by
 refine enter func84 call84 rfl ntmps84 rfl fun w0=>?_;refine go 4 fun g4=>?_
 refine go 9 ?_;refine a1n (c0m I _ c hvc k s) rfl rfl fun v16 q16=>?_;obtain⟨vs,rfl,ss,rfl,hsl⟩:=q16;refine go 5 fun g9=>?_
 refine go 1 ?_;refine a0Q _ he rfl rfl rfl rfl rfl (by simp[Slot.cells,hsl.one];exact⟨rfl,rfl⟩) ?_;refine go 9 ?_;refine cV (a8m I _ _ hsl p) ?_;refine gS 7 24 (fun h24 p24=>?_) fun h24 p24=>?_
 ·refine gS 4 28 (fun h28 p28=>?_) fun h28 p28=>?_
  ·refine go 10 ?_;exact q_v (congrArg Value.bool (by simp only[a6F,h24,h28,bS]))
  ·refine go 10 ?_;exact q_v (congrArg Value.bool (by simp only[a6F,h24,h28,bS]))
 ·refine go 14 ?_;exact q_v (congrArg Value.bool (by simp only[a6F,h24,bS]))
theorem c8W (a b:Sbu):eqV prog 9 181 (.agg a.cells.toArray) (.agg b.cells.toArray)=some (decide (a=b)):=by
 rw[←Sbu.eqB_eq]
 kernel_rfl
theorem d5h (I:IMap) (x p h:Part) (vs:List Value) (hx:Enc.rd I vs x) (q q2:Value) (s:ByteArray) (g1 g2:Nat) (c1:ICells I g1 0 (p.cells q++h.cells q2)) (c2:ICells I g2 0 [.string s]) :
    FnV prog 180 #[.agg vs.toArray,.pointer (some ⟨g1,0,none⟩),.pointer (some ⟨g2,0,none⟩)] I (.bool (a9j p s x)):=by
 obtain⟨qx,rfl,hqx⟩:=hx;refine enter func180 call180 rfl ntmps180 rfl fun w0=>?_;refine go 4 fun g3=>?_
 refine gS 12 11 (fun h11 p11=>?_) fun h11 p11=>?_
 ·refine gS 6 17 (fun h17 p17=>?_) fun h17 p17=>?_
  ·refine go 12 ?_;exact q_v (congrArg Value.bool (by simp only[a9j,h11,h17,bS]))
  ·refine go 12 ?_;exact q_v (congrArg Value.bool (by simp only[a9j,h11,h17,bS]))
 ·refine go 18 ?_;exact q_v (congrArg Value.bool (by simp only[a9j,h11,bS]))
theorem c4j (I:IMap) (p h:Part) (q q2:Value) (hq:q.oneCell'=true) (hq2:q2.oneCell'=true) (v:Value) (l:List Part) (hv:RdS I v l) (s:ByteArray) :
    FnV prog 87 #[.agg (p.cells q++h.cells q2).toArray,.agg #[v],.string s] I (.bool (l.any (a9j p s))):=by
 refine enter func87 call87 rfl ntmps87 rfl fun w0=>?_;refine go 4 fun g3=>?_
 refine go 2 fun g4=>?_
 refine go 2 fun g5=>?_
 refine go 7 ?_;refine a0d ?_;refine a0B fun Ig3 jg3 cg3=>?_;have hv:=hv.le jg3;refine a0B fun Ig5 jg5 cg5=>?_;have hv:=hv.le jg5;have cg3:=cg3.le jg5;refine go 2 ?_;refine cV (c2O _ v l hv 180 [.pointer (some ⟨g3,0,none⟩),.pointer (some ⟨g5,0,none⟩)] (a9j p s) (fun x _ vs hx=>d5h _ x p h vs hx q q2 s g3 g5 cg3 cg5)) ?_;refine go 5 ?_;exact a8p rfl
theorem d5j (I:IMap) (u:Sbu) (p h:Part) (q q2:Value) (hq:q.oneCell'=true) (hq2:q2.oneCell'=true) (v:Value) (l:List Part) (hv:RdS I v l) (day:Int) (g1 g2 g3 g4:Nat) (c1:ICells I g1 0 (h.cells q2)) (c2:ICells I g2 0 (p.cells q++h.cells q2)) (c3:ICells I g3 0 [.int .i64 (day)]) (c4:ICells I g4 0 [v]) :
    FnV prog 86 #[.agg u.cells.toArray,.pointer (some ⟨g1,0,none⟩),.pointer (some ⟨g2,0,none⟩),.pointer (some ⟨g3,0,none⟩),.pointer (some ⟨g4,0,none⟩)] I (.bool (a8q l p h day u)):=by
 refine enter func86 call86 rfl ntmps86 rfl fun w0=>?_;refine go 4 fun g5=>?_
 refine go 20 fun g7=>?_
 refine go 8 ?_;refine o_v rfl (b0r T.eqg_181 (c8W u ⟨h.kind,p.slot,p.kind,u.twin,u.to⟩) rfl rfl) ?_;refine gS 1 24 (fun h24 p24=>?_) fun h24 p24=>?_
 ·refine gS 6 30 (fun h30 p30=>?_) fun h30 p30=>?_
  ·refine gS 4 34 (fun h34 p34=>?_) fun h34 p34=>?_
   ·refine go 12 ?_;exact q_v (congrArg Value.bool (by simp only[a8q,h24,h30,h34,bS]))
   ·refine go 5 ?_;refine a0q rfl rfl h34 (a0v (c4j _ p h q q2 hq hq2 v l hv u.twin) rfl rfl ?_);refine go 7 ?_;exact q_v (congrArg Value.bool (by simp only[a8q,h24,h30,h34,bS]))
  ·refine go 16 ?_;exact q_v (congrArg Value.bool (by simp only[a8q,h24,h30,bS]))
 ·refine go 22 ?_;exact q_v (congrArg Value.bool (by simp only[a8q,h24,bS]))
theorem b5b (I:IMap) (vc:Value) (c:List Kind) (hvc:RdS I vc c) (w:Value) (subs:List Sbu) (hw:RdS I w subs) (v:Value) (l:List Part) (hv:RdS I v l) (p:ByteArray) (day:Int) :
    FnV prog 28 #[.agg #[vc],w,.agg #[v],.string p,.int .i64 (day)] I (.bool (b0R c subs l p day)):=by
 refine enter func28 call28 rfl ntmps28 rfl fun w0=>?_;refine go 4 fun g5=>?_
 refine go 2 fun g7=>?_
 refine go 2 fun g9=>?_
 refine go 8 ?_;refine a1n (a9z _ _ l hv p) rfl rfl fun v18 q18=>?_;obtain⟨vs18,rfl,s18,rfl,hs18⟩:=q18;refine go 5 fun g11=>?_
 refine go 1 ?_;refine a0Q _ he rfl rfl rfl rfl rfl (Enc.one (α:=Part) (x:=((a0f l p).getD zPart)) ⟨s18,rfl,hs18⟩) ?_;refine gS 9 23 (fun h23 p23=>?_) fun h23 p23=>?_
 ·refine go 16 ?_;exact q_v (congrArg Value.bool (c2c (by simp only[h23,bS])).symm)
 ·refine gC 6 (fun h27 p27=>?_) fun h27 p27=>?_
  ·refine go 9 ?_;exact q_v (congrArg Value.bool (c2c (by simp only[h23,h27,bS])).symm)
  ·refine go 8 ?_;refine a1n (a9z _ _ l hv ((a0f l p).getD zPart).into) rfl rfl fun v33 q33=>?_;obtain⟨vs33,rfl,s33,rfl,hs33⟩:=q33;refine go 5 fun g13=>?_
   refine go 1 ?_;refine a0Q _ he rfl rfl rfl rfl rfl (Enc.one (α:=Part) (x:=((a0f l ((a0f l p).getD zPart).into).getD zPart)) ⟨s33,rfl,hs33⟩) ?_;refine go 10 fun g14=>?_
   refine go 1 ?_;refine a0Q _ he rfl rfl rfl rfl rfl (d1j hs18 hs33) ?_;refine gC 11 (fun h39 p39=>?_) fun h39 p39=>?_
   ·refine go 9 ?_;exact q_v (congrArg Value.bool (d0g (by simp only[h23,h27,h39,bS]) p39).symm)
   ·refine go 12 ?_;refine cV (c0l _ vc c hvc ((a0f l ((a0f l p).getD zPart).into).getD zPart).kind ((a0f l p).getD zPart).slot ((a0f l p).getD zPart).kind) ?_;refine gC 3 (fun h42 p42=>?_) fun h42 p42=>?_
    ·refine go 9 ?_;exact q_v (congrArg Value.bool (d0h (by simp only[h23,h27,h39,h42,bS]) p39 h42).symm)
    ·refine go 6 ?_;refine a0b ?_;refine a0B fun Ig13 jg13 cg13=>?_;have hw:=hw.le jg13;have hv:=hv.le jg13;refine a0B fun Ig14 jg14 cg14=>?_;have hw:=hw.le jg14;have hv:=hv.le jg14;have cg13:=cg13.le jg14;refine a0b ?_;refine a0B fun Ig9 jg9 cg9=>?_;have hw:=hw.le jg9;have hv:=hv.le jg9;have cg13:=cg13.le jg9;have cg14:=cg14.le jg9;refine a0b ?_;refine a0B fun Ig7 jg7 cg7=>?_;have hw:=hw.le jg7;have hv:=hv.le jg7;have cg13:=cg13.le jg7;have cg14:=cg14.le jg7;have cg9:=cg9.le jg7;refine go 2 ?_;refine cV (c6A _ w subs hw 86 [.pointer (some ⟨g13,0,none⟩),.pointer (some ⟨g14,0,none⟩),.pointer (some ⟨g9,0,none⟩),.pointer (some ⟨g7,0,none⟩)] (a8q l ((a0f l p).getD zPart) ((a0f l ((a0f l p).getD zPart).into).getD zPart) day) (fun x _ vs hx=>by cases hx;exact d5j _ x ((a0f l p).getD zPart) ((a0f l ((a0f l p).getD zPart).into).getD zPart) s18 s33 (RdS.one hs18) (RdS.one hs33) v l hv day g13 g14 g9 g7 cg13 cg14 cg9 cg7)) ?_;refine go 5 ?_;exact a8p (congrArg Value.bool (d0i (by simp only[h23,h27,h39,h42,bS]) p39 h42).symm)
end Go.Proofs.YtgmkjpafapgccaaGreat
namespace Go.Proofs.YtgmkjpafapgccaaGreat
open Go Go.Sx Tryz
set_option linter.all false
set_option maxRecDepth 20000
set_option maxHeartbeats 4000000
theorem T.eqg_234:prog.eqGuardType prog.depth 234=false:=by kernel_rfl
instance:Has (a1g prog 172 0) (0,true,1):=hk
theorem b0D (I:IMap) (v:Value) (l:List ByteArray) (hl:l.length≤1000000) (f:FuncId) (cs:List Value) (p:ByteArray→Bool) (hp:∀I2,ILe I I2→∀x:ByteArray,FnV prog f ([Value.string x]++cs).toArray I2 (.bool (p x))) :
    FnD prog 254 #[v,.func (.func f) #[] cs.toArray] I (.row v 9 1 l.length (a1q l).flatten) (fun u J=>RdS J u (l.filter fun x=>!p x)):=by
 refine enter func254 call254 rfl ntmps254 rfl fun w0=>?_;refine go 10 ?_;refine a9W m0 rfl rfl ((a3d _ l).flat) (fun I2 hI2 hR=>a5p I2 _ l hR f cs p (fun x _ vs hx=>hp I2 hI2 x)) rfl rfl ?_;refine gC 10 (fun h12 p12=>?_) fun h12 p12=>?_
 ·refine go 9 ?_
  have hall:l.filter (fun x=>!p x)=l:=by
    rw[List.filter_eq_self];intro x hx;have:=a2F p l;rw[show decide (0≤a4u p l)=false from by rw[p12];rfl]at this
    simpa using List.any_eq_false.1 this.symm x hx
  refine a0i (l:=l) rfl rfl (a3d _ l).flat fun J hJ R=>?_;exact q_d (by rw[hall];exact R)
 ·obtain⟨i0,hi0,hx0,hp0,hn0⟩:∃(i:Nat) (h:i<l.length),a4u p l=(i:Int)∧p l[i]=true∧∀j x,j<i→l[j]? = some x→p x=false:=by
    rcases a4V p l with ⟨h1,_⟩|⟨i,hi,h1,h2⟩
    · exfalso;have:=p12;have : -1≤a4u p l:=c1k p l;omega
    · rw[List.find?_eq_some_iff_getElem]at h2
      obtain⟨h3,k,hk,h4,h5⟩:=h2;obtain⟨h6,h7⟩:=b6S h1 hi;exact⟨i,hi,h1,h6,h7⟩
  refine a7A (a1I l) (a2g l) (fun h0 _=>oM) fun g cap rest hv hR hcap hmax=>?_;subst hv;have hcap1:l.length≤cap:=oM;refine go 6 ?_;refine o_v rfl (OV.cast (u:=.int .i64 ((i0+1:Nat):Int)) (a2h rfl rfl ⟨oM,oM⟩) (congrArg (Value.int .i64) (by rw[hx0];omega))) ?_;refine go 4 ?_
  refine a3k (i0) (i0+1) (l) (fun i j m=>I)
   (fun i j m=>[(0,.slice (some ⟨g,0,none⟩) l.length cap),(1,.func (.func f) #[] cs.toArray),(5,.int .i64 ((i:Nat):Int)),(6,.int .i64 ((j:Nat):Int))])
   (fun i j m=>[.blk g 9 (a1q m++rest).flatten])
   (fun i j m=>Del p l m i j)
   (fun i j m=>l.length-j) (Del.start hi0 hp0 hn0) rfl ⟨rfl,rfl,congrArg (fun z:Int=>some (Value.int .i64 z)) hx0,rfl,trivial⟩ rfl ?_
  intro i j m hD;have hml:=hD.len;have hij:=hD.le;have hjl:=hD.hj;refine gC 9 (fun h19 p19=>?_) fun h19 p19=>?_
  ·have hlt:j<l.length:=oM;have hjm:j<m.length:=oM;have hat:=hD.at_ hlt;refine go 8 ?_;refine o_v rfl (a0m he rfl rfl rfl (j) oM oM) ?_;refine o_v rfl (a6n m0 ((a1I _).append hR) he rfl (j) oM (a5r hjm)) ?_;refine go 8 ?_;refine cV (hp _ (ILe.refl _) _) ?_;refine gC 3 (fun h29 p29=>?_) fun h29 p29=>?_
   ·refine go 5 ?_;refine o_v rfl (a0m he rfl rfl rfl (i) oM oM) ?_;refine go 1 ?_;refine a1O _ (i) ((a1I _).append hR) he rfl rfl rfl rfl rfl oM (by simp[a2g];omega) ?_;refine go 4 ?_;refine o_v rfl (OV.cast (u:=.int .i64 ((i+1:Nat):Int)) (a2h rfl rfl ⟨oM,oM⟩) (congrArg (Value.int .i64) oM)) ?_;refine go 6 ?_;refine o_v rfl (OV.cast (u:=.int .i64 ((j+1:Nat):Int)) (a2h rfl rfl ⟨oM,oM⟩) (congrArg (Value.int .i64) oM)) ?_;refine go 3 ?_;exact a1P (i+1) (j+1) (m.set i l[j]) (hD.keep hlt (by simpa[hat]using p29)) oM rfl sb (by rw[←a8d oM,hat])
   ·refine go 5 ?_;refine o_v rfl (OV.cast (u:=.int .i64 ((j+1:Nat):Int)) (a2h rfl rfl ⟨oM,oM⟩) (congrArg (Value.int .i64) oM)) ?_;refine go 3 ?_;exact a1P (i) (j+1) (m) (hD.skip hlt (by simpa[hat]using p29)) oM rfl sb rfl
  ·obtain rfl:j=l.length:=oM;have hfi:m.take i=l.filter fun x=>!p x:=by have:=hD.fst;rwa[List.take_length]at this
   refine go 9 ?_;refine o_v rfl (a0E he rfl rfl i rfl oM) ?_;refine go 1 ?_;refine b5I i he he rfl rfl rfl rfl ((a1I _).append hR) (fun _=>a1r (k:=1) oM) (by simp[a2g];omega) ?_;refine go 6 ?_;refine o_v rfl (a2e he rfl rfl i rfl oM) ?_;refine go 5 ?_;have htk:(a1q m++rest).take i=a1q (l.filter fun x=>!p x):=by rw[List.take_append_of_le_length (by rw[a2g];omega),←hfi,a1q,a1q,List.map_take]
   have hll:(l.filter fun x=>!p x).length=i:=by rw[←hfi,List.length_take];omega
   rw[htk];refine a2a (m:=i) (cap:=cap) (a1I _) ((Uk.rep (c:=[.string ⟨#[]⟩]) rfl _).append (Uk.drop ((a1I _).append hR) _)) (by rw[a2g,hll]) (by simp[a2g];omega) hmax ?_;refine a0i (l:=l.filter fun x=>!p x) rfl hll.symm (a3d _ _).flat fun J hJ R=>?_;exact q_d R
theorem c1p (I:IMap) (v:Value) (l:List Prp) (hv:RdS I v l) (s:Prp) :
    FnV prog 252 #[v,.agg s.cells.toArray] I (.int .i64 (a4u (fun x=>decide (s=x)) l)):=by
 obtain⟨A,c,rfl,hA,hc,hm⟩:=hv;refine enter func252 call252 rfl ntmps252 rfl fun w0=>?_;refine go 4 fun g3=>?_
 refine go 12 ?_
 refine a0x (α:=Nat) 0 (fun i=>I)
  (fun i=>[(3,.pointer (some ⟨g3,0,none⟩)),(0,.slice A l.length c),(7,.int .i64 (l.length:Int)),(8,.int .i64 (i:Int))])
  (fun i=>[.blk g3 234 s.cells])
  (fun i=>i≤l.length∧∀j x,j<i→l[j]? = some x→decide (s=x)=false)
  (fun i=>l.length-i) ⟨Nat.zero_le _,fun j x hj=>absurd hj (Nat.not_lt_zero j)⟩ rfl sb rfl ?_
 intro i ⟨hi,hn⟩;refine gC 6 (fun h9 p9=>?_) fun h9 p9=>?_
 ·have hlt:i<l.length:=oM;refine go 12 ?_;refine dG 0 3 ?_;obtain⟨b14,o14,w14,e14,c14,r14⟩:=RdA.at_ hA (i:=i) hlt;obtain rfl:=r14;refine dG 3 2 ?_;refine a0I 5 rfl rfl (by kernel_rfl) rfl (.refl _) rfl (b0r T.eqg_234 (c8V s l[i]) rfl rfl) ?_;refine gC 2 (fun h16 p16=>?_) fun h16 p16=>?_
  ·refine go 13 ?_;exact q_v (congrArg (Value.int .i64) (a1z hlt h16 hn).symm)
  ·refine go 8 ?_;exact a0w (i+1) ⟨oM,a1E hn hlt h16⟩ oM rfl sb rfl
 ·refine go 12 ?_;exact q_v (congrArg (Value.int .i64) (a1T (fun j x hj=>hn j x oM)).symm)
theorem b3t (I:IMap) (v:Value) (l:List Prp) (hv:RdS I v l) (s:Prp) :
    FnV prog 172 #[v,.agg s.cells.toArray] I (.bool (decide (s∈l))):=by
 refine enter func172 call172 rfl ntmps172 rfl fun w0=>?_;refine go 4 fun g3=>?_
 refine go 8 ?_;refine cV (c1p I v l hv s) ?_;refine go 6 ?_;exact q_v (congrArg Value.bool ((a2F _ l).trans (c3Y s l)))
theorem b2l (I:IMap) (v:Value) (l:List Prp) (hv:RdS I v l) (f:FuncId) (cs:List Value) (p:Prp→Bool) (hp:∀x∈l,∀vs,Enc.rd I vs x→FnV prog f ([Value.agg vs.toArray]++cs).toArray I (.bool (p x))) :
    FnV prog 253 #[v,.func (.func f) #[] cs.toArray] I (.int .i64 (a4u p l)):=by
 obtain⟨A,c,rfl,hA,hc,hm⟩:=hv;refine enter func253 call253 rfl ntmps253 rfl fun w0=>?_;refine go 14 ?_
 refine a0x (α:=Nat) 0 (fun i=>I)
  (fun i=>[(0,.slice A l.length c),(1,.func (.func f) #[] cs.toArray),(7,.int .i64 (l.length:Int)),(8,.int .i64 (i:Int))])
  (fun i=>[])
  (fun i=>i≤l.length∧∀j x,j<i→l[j]? = some x→p x=false)
  (fun i=>l.length-i) ⟨Nat.zero_le _,fun j x hj=>absurd hj (Nat.not_lt_zero j)⟩ rfl sb rfl ?_
 intro i ⟨hi,hn⟩;refine gC 6 (fun h9 p9=>?_) fun h9 p9=>?_
 ·have hlt:i<l.length:=oM;refine go 15 ?_;obtain⟨b14,o14,w14,e14,c14,r14⟩:=RdA.at_ hA (i:=i) hlt;refine go 1 ?_;refine o_v rfl (a0V he rfl c14 (Enc.len r14)) ?_;refine go 1 ?_;refine cV (hp _ (List.getElem_mem hlt) _ r14) ?_;refine gC 2 (fun h16 p16=>?_) fun h16 p16=>?_
  ·refine go 13 ?_;exact q_v (congrArg (Value.int .i64) (a1z hlt p16 hn).symm)
  ·refine go 8 ?_;exact a0w (i+1) ⟨oM,a1E hn hlt p16⟩ oM rfl sb rfl
 ·refine go 12 ?_;exact q_v (congrArg (Value.int .i64) (a1T (fun j x hj=>hn j x oM)).symm)
theorem a8x (I:IMap) (v:Value) (l:List Prp) (hv:RdS I v l) (f:FuncId) (cs:List Value) (p:Prp→Bool) (hp:∀x∈l,∀vs,Enc.rd I vs x→FnV prog f ([Value.agg vs.toArray]++cs).toArray I (.bool (p x))) :
    FnV prog 173 #[v,.func (.func f) #[] cs.toArray] I (.bool (l.any p)):=by
 refine enter func173 call173 rfl ntmps173 rfl fun w0=>?_;refine go 10 ?_;refine cV (b2l I v l hv f cs p hp) ?_;refine go 6 ?_;exact q_v (congrArg Value.bool (a2F p l))
theorem c9N (I:IMap) (v:Value) (l:List Part) (hv:RdS I v l) (day:Int) (k n:ByteArray) (g1 g2:Nat) (c1:ICells I g1 0 [v,.int .i64 (day)]) (c2:ICells I g2 0 [.string k]) :
    FnV prog 255 #[.string n,.pointer (some ⟨g1,0,none⟩),.pointer (some ⟨g2,0,none⟩)] I (.bool ((fun n=>!decide (((a0f l n).getD zPart).kind=k)) n)):=by
 refine enter func255 call255 rfl ntmps255 rfl fun w0=>?_;refine go 8 ?_;refine o_v rfl (a0V he rfl (c1.sub 0 1) rfl) ?_;refine go 2 ?_;refine a1n (a9z _ _ l hv n) rfl rfl fun v11 q11=>?_;obtain⟨vs11,rfl,s11,rfl,hs11⟩:=q11;refine go 5 fun g5=>?_
 refine go 1 ?_;refine a0Q _ he rfl rfl rfl rfl rfl (Enc.one (α:=Part) (x:=(a0f l n).getD zPart) ⟨s11,rfl,hs11⟩) ?_;refine go 14 ?_;exact q_v (congrArg Value.bool (by simp))
theorem c5t (I:IMap) (v:Value) (l:List Part) (hv:RdS I v l) (hN:b1j l≤12) (day:Int) (p k:ByteArray) :
    FnI prog 176 #[.agg #[v,.int .i64 (day)],.string p,.string k] I (fun u J=>∃ns,RdS J u ns∧ns.Perm (b2n l p k)∧ns.length≤12):=by
 refine enter func176 call176 rfl ntmps176 rfl fun w0=>?_;refine go 4 fun g3=>?_
 refine go 2 fun g5=>?_
 refine go 6 ?_;refine o_v rfl (a1L ([v]) m1 he rfl rfl rfl) ?_;refine go 2 ?_;refine a1F (a8I _ v l hv p hN) rfl rfl fun v10 s10 q10=>?_;obtain⟨ns,rfl,hns,hnl,hnd⟩:=q10;refine a0d ?_;refine a0B fun Ig3 jg3 cg3=>?_;have hv:=hv.le jg3;refine a0b ?_;refine a0B fun Ig5 jg5 cg5=>?_;have hv:=hv.le jg5;have cg3:=cg3.le jg5;refine go 2 ?_;refine a9V (b0D _ _ ns oM 255 [.pointer (some ⟨g3,0,none⟩),.pointer (some ⟨g5,0,none⟩)] (fun n=>!decide (((a0f l n).getD zPart).kind=k)) (fun I2 hI2 x=>c9N I2 v l (hv.le hI2) day k x g3 g5 (cg3.le hI2) (cg5.le hI2))) rfl rfl fun v12 I12 j12 q12=>?_;refine go 5 ?_;have hf:ns.filter (fun x=>!((fun n=>!decide (((a0f l n).getD zPart).kind=k)) x))=ns.filter fun n=>decide (((a0f l n).getD zPart).kind=k):=by simp only[Bool.not_not]
 rw[hf]at q12
 exact q_i ⟨_,q12,b8I hnd hns,Nat.le_trans (List.length_filter_le _ _) hnl⟩
end Go.Proofs.YtgmkjpafapgccaaGreat
namespace Go.Proofs.YtgmkjpafapgccaaGreat
open Go Go.Sx Tryz
set_option linter.all false
set_option maxRecDepth 20000
set_option maxHeartbeats 4000000
instance:Has (a1g prog 172 1) (1,false,1):=hk
instance:Has (tyK prog 172) (true,2):=hk
theorem b7k (I:IMap) (g:FuncId) (join:Int→Int→Int) (hj:∀J a b,FnV prog g #[ci a,ci b] J (ci (join a b))) (f:FuncId) (cs:List Value) (l:List Int) (hl:l.length≤1000000) (hf:∀J,ILe I J→∀(i:Nat) (hi:i<l.length),FnI prog f ([ci i]++cs).toArray J (fun u _=>u=ci l[i])) (z:Int) :
    FnI prog 164 #[.func (.func g) #[] #[],.int .i64 (z),.int .i64 ((l.length:Nat):Int),.func (.func f) #[] cs.toArray] I (fun u J=>u=ci (a6l join z l)):=by
 refine enter func164 call164 rfl ntmps164 rfl fun w0=>?_;refine go 13 ?_
 refine a0L ((0:Nat)) (I) (fun i J=>J)
  (fun i J=>[(0,.func (.func g) #[] #[]),(1,.int .i64 (a6l join z (l.take i))),(3,.func (.func f) #[] cs.toArray),(10,.int .i64 ((l.length:Nat):Int)),(11,.int .i64 ((i:Nat):Int))])
  (fun i J=>[])
  (fun i J=>i≤l.length∧ILe I J)
  (fun i J=>l.length-i) ⟨Nat.zero_le _,ILe.refl _⟩ rfl sb rfl ?_
 intro i J ⟨hi,hJ⟩;refine gC 6 (fun h12 p12=>?_) fun h12 p12=>?_
 ·have hlt:i<l.length:=oM;refine go 16 ?_;refine a0p (hf J hJ i hlt) rfl rfl fun v18 I18 j18 q18=>?_;obtain rfl:=q18;refine go 1 ?_;refine cV (hj _ _ _) ?_;refine go 9 ?_;exact a0n (i+1) (I18) ⟨oM,hJ.trans j18⟩ oM rfl ⟨rfl,congrArg (fun z:Int=>some (Value.int .i64 z)) (b8E hlt),rfl,rfl,rfl,trivial⟩ rfl
 ·obtain rfl:i=l.length:=oM;refine go 13 ?_;exact q_i (by rw[List.take_length])
theorem c9M {A:Option Addr} {c0:Nat} (I:IMap) (v:Value) (l:List Part) (hv:RdS I v l) (day:Int) (N:Nat) (ih:∀I2,ILe I I2→∀(x:Xp),OkXp x→allX a4l x=true→cntX x≤N→∀vs,XpRd I2 vs x→∀p,FnI prog 81 #[.agg #[v,.int .i64 (day)],.agg vs.toArray,.string p] I2 (fun u _=>u=ci (askF l day x p))) (x:Xp) (ho:OkXp x) (hn:allX a4l x=true) (hN:cntX x≤N+1) (g3 g4 g5:Nat) (c3:ICells I g3 0 [v,.int .i64 (day)]) (c4:ICells I g4 0 (x.cs (.slice A x.kids.length c0))) (hA:RdA I A x.kids) (hc:x.kids.length≤c0) (hm:c0≤9223372036854775807) (p:ByteArray) (c5:ICells I g5 0 [.string p]) (i:Nat) (hi:i<x.kids.length) :
    FnI prog 165 #[.int .i64 ((i:Nat):Int),.pointer (some ⟨g3,0,none⟩),.pointer (some ⟨g4,0,none⟩),.pointer (some ⟨g5,0,none⟩)] I (fun u J=>u=ci (askF l day x.kids[i] p)):=by
 refine enter func165 call165 rfl ntmps165 rfl fun w0=>?_;refine go 6 ?_;refine a1J fun hE1 hf1=>?_;refine go 1 ?_;refine dG 0 4 ?_;obtain⟨b10,o10,w10,e10,c10,r10⟩:=RdA.at_ hA (i:=i) hi;refine a0I 4 rfl rfl (by kernel_rfl) rfl .slnil rfl (a0m he rfl rfl e10 (i) oM hi) ?_;refine a0I 5 rfl rfl (by kernel_rfl) rfl .slnil rfl (a0V he rfl c10 (Enc.len r10)) ?_;refine dH 6 1 ?_;refine a0p (ih I (ILe.refl _) x.kids[i] (ho.kid (List.getElem_mem hi)) ((a5Y hn).2 _ (List.getElem_mem hi)) (by have:=a6S (List.getElem_mem hi);omega) _ r10 p) rfl rfl fun v13 I13 j13 q13=>?_;obtain rfl:=q13;refine dG 8 1 ?_;refine go 4 ?_;exact q_i rfl
theorem c7H {A:Option Addr} {c0:Nat} (I:IMap) (v:Value) (l:List Part) (hv:RdS I v l) (day:Int) (N:Nat) (ih:∀I2,ILe I I2→∀(x:Xp),OkXp x→allX a4l x=true→cntX x≤N→∀vs,XpRd I2 vs x→∀p,FnI prog 81 #[.agg #[v,.int .i64 (day)],.agg vs.toArray,.string p] I2 (fun u _=>u=ci (askF l day x p))) (x:Xp) (ho:OkXp x) (hn:allX a4l x=true) (hN:cntX x≤N+1) (g3 g4 g16:Nat) (c3:ICells I g3 0 [v,.int .i64 (day)]) (c4:ICells I g4 0 (x.cs (.slice A x.kids.length c0))) (hA:RdA I A x.kids) (hc:x.kids.length≤c0) (hm:c0≤9223372036854775807) (h1:0<x.kids.length) (w:Value) (ns:List ByteArray) (hw:RdS I w ns) (c16:ICells I g16 0 [w]) (i:Nat) (hi:i<ns.length) :
    FnI prog 177 #[.int .i64 ((i:Nat):Int),.pointer (some ⟨g3,0,none⟩),.pointer (some ⟨g4,0,none⟩),.pointer (some ⟨g16,0,none⟩)] I (fun u J=>u=ci (askF l day x.kids[0] ns[i])):=by
 obtain⟨W,cw,rfl,hW,hcw,hmw⟩:=hw;refine enter func177 call177 rfl ntmps177 rfl fun w0=>?_;refine go 6 ?_;refine a1J fun hE1 hf1=>?_;refine go 1 ?_;refine dG 0 3 ?_;obtain⟨b9,o9,w9,e9,c9,r9⟩:=RdA.at_ hA (i:=0) h1;refine a0I 3 rfl rfl (by kernel_rfl) rfl .slnil rfl (a0m he rfl rfl e9 (0) oM h1) ?_;refine a0I 4 rfl rfl (by kernel_rfl) rfl .slnil rfl (a0V he rfl c9 (Enc.len r9)) ?_;refine dG 5 2 ?_;obtain⟨b13,o13,w13,e13,c13,r13⟩:=RdA.at_ hW (i:=i) hi;obtain rfl:=r13;refine a0I 7 rfl rfl (by kernel_rfl) rfl .slnil rfl (a0m he rfl rfl e13 (i) oM hi) ?_;refine dH 8 1 ?_;refine a0p (ih I (ILe.refl _) x.kids[0] (ho.kid (List.getElem_mem h1)) ((a5Y hn).2 _ (List.getElem_mem h1)) (by have:=a6S (List.getElem_mem h1);omega) _ r9 ns[i]) rfl rfl fun v15 I15 j15 q15=>?_;obtain rfl:=q15;refine dG 10 1 ?_;refine go 4 ?_;exact q_i rfl
theorem d5U (I:IMap) (q:Prp) (x:Xp) (s:Value) (g4:Nat) (c4:ICells I g4 0 (x.cs s)) :
    FnV prog 174 #[.agg q.cells.toArray,.pointer (some ⟨g4,0,none⟩)] I (.bool (decide (q.key=x.name))):=by
 refine enter func174 call174 rfl ntmps174 rfl fun w0=>?_;refine go 4 fun g2=>?_
 refine go 15 ?_;exact q_v rfl
theorem d6O (I:IMap) (q:Part) (vs:List Value) (hq:Enc.rd I vs q) (x:Xp) (s:Value) (p:ByteArray) (g5 g4:Nat) (c5:ICells I g5 0 [.string p]) (c4:ICells I g4 0 (x.cs s)) :
    FnV prog 175 #[.agg vs.toArray,.pointer (some ⟨g5,0,none⟩),.pointer (some ⟨g4,0,none⟩)] I (.bool ((decide (q.into=p)&&decide (q.slot=x.name))&&decide (q.kind=x.value))):=by
 obtain⟨qx,rfl,hqx⟩:=hq;refine enter func175 call175 rfl ntmps175 rfl fun w0=>?_;refine go 4 fun g3=>?_
 refine gS 10 9 (fun h9 p9=>?_) fun h9 p9=>?_
 ·refine gS 7 16 (fun h16 p16=>?_) fun h16 p16=>?_
  ·refine go 11 ?_;exact q_v (congrArg Value.bool (by simp only[h9,h16,bS]))
  ·refine go 11 ?_;exact q_v (congrArg Value.bool (by simp only[h9,h16,bS]))
 ·refine go 18 ?_;exact q_v (congrArg Value.bool (by simp only[h9,bS]))
theorem b8T (I:IMap) (v:Value) (l:List Part) (hv:RdS I v l) (hf:b1j l≤12) (day:Int) (N:Nat) (ih:∀I2,ILe I I2→∀(x:Xp),OkXp x→allX a4l x=true→cntX x≤N→∀vs,XpRd I2 vs x→∀p,FnI prog 81 #[.agg #[v,.int .i64 (day)],.agg vs.toArray,.string p] I2 (fun u _=>u=ci (askF l day x p))) (x:Xp) (ho:OkXp x) (hn:allX a4l x=true) (hN:cntX x≤N+1) (hcl:x.kids.length≤60) (vs:List Value) (hx:XpRd I vs x) (p:ByteArray) :
    FnI prog 81 #[.agg #[v,.int .i64 (day)],.agg vs.toArray,.string p] I (fun u J=>u=ci (askF l day x p)):=by
 obtain⟨sk,rfl,hk⟩:=b0x hx;obtain⟨A,c0,rfl,hA,hc,hm⟩:=hk;refine enter func81 call81 rfl ntmps81 rfl fun w0=>?_;refine go 4 fun g3=>?_
 refine go 2 fun g4=>?_
 refine go 2 fun g5=>?_
 refine go 6 ?_;refine o_v rfl (a1L ([v]) m2 he rfl rfl rfl) ?_;refine go 2 ?_;refine a1n (a9z _ _ l hv p) rfl rfl fun v22 q22=>?_;obtain⟨vs22,rfl,s22,rfl,hs22⟩:=q22;refine go 5 fun g7=>?_
 refine go 1 ?_;refine a0Q _ he rfl rfl rfl rfl rfl (Enc.one (α:=Part) (x:=((a0f l p).getD zPart)) ⟨s22,rfl,hs22⟩) ?_;refine go 10 ?_;refine a0u ?_;refine a0B fun Ig3 jg3 cg3=>?_;have hv:=hv.le jg3;have hA:=hA.le jg3;have hs22:=hs22.le jg3;refine a0d ?_;refine a0B fun Ig4 jg4 cg4=>?_;have hv:=hv.le jg4;have hA:=hA.le jg4;have hs22:=hs22.le jg4;have cg3:=cg3.le jg4;refine a0b ?_;refine a0B fun Ig5 jg5 cg5=>?_;have hv:=hv.le jg5;have hA:=hA.le jg5;have hs22:=hs22.le jg5;have cg3:=cg3.le jg5;have cg4:=cg4.le jg5;refine go 7 ?_;refine o_v rfl (a0H he rfl (cg4 3 _ rfl)) ?_;refine go 7 ?_;refine o_v rfl (a0H he rfl (cg4 0 _ rfl)) ?_;refine go 10 ?_;refine a6M (α:=Int) (Ix:=(fun more=>Ig5)) (Lx:=(fun more=>[(3,.pointer (some ⟨g3,0,none⟩)),(4,.pointer (some ⟨g4,0,none⟩)),(7,.pointer (some ⟨g7,0,none⟩)),(11,.int .i64 (more))])) (Hx:=(fun more=>[.blk g7 85 (((a0f l p).getD zPart).cells s22)])) (p:=(fun more=>(x.op=5∧more=x.n+x.extra)∨(x.op=6∧more=x.n))) ?_ ?_
 ·refine gC 19 (fun h30 p30=>?_) fun h30 p30=>?_
  ·refine go 32 ?_;exact q_i (congrArg (Value.int .i64) (d4T p30).symm)
  ·refine gC 9 (fun h32 p32=>?_) fun h32 p32=>?_
   ·have hk1:=a9T (a5Y hn).1 (.inl p32);refine go 12 ?_;refine a0p (c9M _ v l hv day N (fun I2 hI2=>ih I2 (ILe.trans (jg3.trans (jg4.trans jg5)) hI2)) x ho hn hN g3 g4 g5 cg3 cg4 hA hc hm p cg5 0 oM) rfl rfl fun v49 I49 j49 q49=>?_;obtain rfl:=q49;refine go 1 ?_;refine cV (d2N _ _) ?_;refine go 22 ?_;exact q_i (congrArg (Value.int .i64) (d4U p32 oM).symm)
   ·refine gC 9 (fun h34 p34=>?_) fun h34 p34=>?_
    ·refine go 14 ?_;refine o_v rfl (a0H he rfl (cg4 5 _ rfl)) ?_;refine o_v rfl (OV.cast (u:=.int .i64 (((x.kids.map fun k=>askF l day k p).length:Nat):Int)) (a3w he rfl) (by rw[List.length_map])) ?_;refine go 2 ?_
     refine a0p (b7k _ 167 b3e (fun J a b=>d2M J a b) 165 [.pointer (some ⟨g3,0,none⟩),.pointer (some ⟨g4,0,none⟩),.pointer (some ⟨g5,0,none⟩)] (x.kids.map fun k=>askF l day k p) (by rw[List.length_map];have:=hcl;omega) (fun J hJ i hi=>by
       have hi':i<x.kids.length:=by rw[List.length_map]at hi;exact hi
       rw[List.getElem_map]
       exact c9M _ v l (hv.le hJ) day N (fun I2 hI2=>ih I2 (ILe.trans (jg3.trans (jg4.trans jg5)) (ILe.trans hJ hI2))) x ho hn hN g3 g4 g5 (cg3.le hJ) (cg4.le hJ) (hA.le hJ) hc hm p (cg5.le hJ) i hi') 2) rfl rfl fun v56 I56 j56 q56=>?_
     obtain rfl:=q56;refine go 20 ?_;exact q_i (congrArg (Value.int .i64) (d4V p34).symm)
    ·refine gC 9 (fun h36 p36=>?_) fun h36 p36=>?_
     ·refine go 16 ?_;refine o_v rfl (a0H he rfl (cg4 5 _ rfl)) ?_;refine o_v rfl (OV.cast (u:=.int .i64 (((x.kids.map fun k=>askF l day k p).length:Nat):Int)) (a3w he rfl) (by rw[List.length_map])) ?_;refine go 2 ?_
      refine a0p (b7k _ 168 orT (fun J a b=>d6y J a b) 165 [.pointer (some ⟨g3,0,none⟩),.pointer (some ⟨g4,0,none⟩),.pointer (some ⟨g5,0,none⟩)] (x.kids.map fun k=>askF l day k p) (by rw[List.length_map];have:=hcl;omega) (fun J hJ i hi=>by
        have hi':i<x.kids.length:=by rw[List.length_map]at hi;exact hi
        rw[List.getElem_map]
        exact c9M _ v l (hv.le hJ) day N (fun I2 hI2=>ih I2 (ILe.trans (jg3.trans (jg4.trans jg5)) (ILe.trans hJ hI2))) x ho hn hN g3 g4 g5 (cg3.le hJ) (cg4.le hJ) (hA.le hJ) hc hm p (cg5.le hJ) i hi') 0) rfl rfl fun v62 I62 j62 q62=>?_
      obtain rfl:=q62;refine go 18 ?_;exact q_i (congrArg (Value.int .i64) (d4W p36).symm)
     ·refine gC 9 (fun h38 p38=>?_) fun h38 p38=>?_
      ·have hnn:=c5C (a5Y hn).1 (.inl p38);refine go 16 ?_;refine o_v rfl (a0H he rfl (cg4 4 _ rfl)) ?_;refine go 5 ?_;exact a2n (x.n+x.extra) (.inl ⟨p38,rfl⟩) sb rfl rfl
      ·refine gC 9 (fun h40 p40=>?_) fun h40 p40=>?_
       ·refine go 15 ?_;exact a2n x.n (.inr ⟨p40,rfl⟩) sb rfl rfl
       ·refine gC 9 (fun h42 p42=>?_) fun h42 p42=>?_
        ·refine go 23 ?_;refine o_v rfl (a0H he rfl (cg4 1 _ rfl)) ?_;refine go 1 ?_;refine o_v rfl (a0H he rfl (cg4 2 _ rfl)) ?_;refine go 2 ?_;refine cV (b3t _ _ ((a0f l p).getD zPart).props hs22 ⟨x.name,x.value⟩) ?_;refine go 1 ?_;refine cV (b2u _ _) ?_;refine go 12 ?_;exact q_i (congrArg (Value.int .i64) (d4Z p42).symm)
        ·refine gC 9 (fun h44 p44=>?_) fun h44 p44=>?_
         ·refine go 26 ?_;refine cV (a8x _ _ ((a0f l p).getD zPart).props hs22 174 [.pointer (some ⟨g4,0,none⟩)] (fun q=>decide (q.key=x.name)) (fun q _ vs hq=>by cases hq;exact d5U _ q x _ g4 cg4)) ?_;refine go 1 ?_;refine cV (b2u _ _) ?_;refine go 10 ?_;exact q_i (congrArg (Value.int .i64) (d5a p44).symm)
         ·refine gC 8 (fun h46 p46=>?_) fun h46 p46=>?_
          ·refine go 25 ?_;refine o_v rfl (a0H he rfl (cg3 0 _ rfl)) ?_;refine go 2 ?_;refine cV (a4U _ _ l hv 175 [.pointer (some ⟨g5,0,none⟩),.pointer (some ⟨g4,0,none⟩)] (fun q=>(decide (q.into=p)&&decide (q.slot=x.name))&&decide (q.kind=x.value)) (fun q _ vs hq=>d6O _ q vs hq x _ p g5 g4 cg5 cg4)) ?_;refine go 1 ?_;refine cV (b2u _ _) ?_;refine go 8 ?_;exact q_i (congrArg (Value.int .i64) (d5b p46).symm)
          ·refine go 25 ?_;refine o_v rfl (a0V he rfl cg3 rfl) ?_;refine go 7 ?_;refine o_v rfl (a0H he rfl (cg5 0 _ rfl)) ?_;refine go 1 ?_;refine o_v rfl (a0H he rfl (cg4 1 _ rfl)) ?_;refine go 1 ?_;refine a0p (c5t _ v l hv hf day p x.name) rfl rfl fun v113 I113 j113 q113=>?_;have hv:=hv.le j113;have hA:=hA.le j113;have cg3:=cg3.le j113;have cg4:=cg4.le j113;have cg5:=cg5.le j113;obtain⟨ns,hns,hnp,hnl⟩:=q113;have hns0:=hns;obtain⟨An,cn,rfl,hAn,_,_⟩:=hns0;refine go 2 fun g16=>?_
           refine go 6 ?_;refine a0B fun Ig16 jg16 cg16=>?_;have hv:=hv.le jg16;have hA:=hA.le jg16;have cg3:=cg3.le jg16;have cg4:=cg4.le jg16;have cg5:=cg5.le jg16;have hns:=hns.le jg16;have hAn:=hAn.le jg16;refine go 8 ?_;refine o_v rfl (a0H he rfl (cg4 0 _ rfl)) ?_;refine gC 9 (fun h117 p117=>?_) fun h117 p117=>?_
           ·have hk1:=a9T (a5Y hn).1 (.inr (.inl p117));have h1:0<x.kids.length:=oM;refine go 3 ?_;refine o_v rfl (a0H he rfl (cg16 0 _ rfl)) ?_;refine o_v rfl (OV.cast (u:=.int .i64 (((ns.map fun q=>askF l day x.kids[0] q).length:Nat):Int)) (a3w he rfl) (by rw[List.length_map])) ?_;refine go 2 ?_
            refine a0p (b7k _ 167 b3e (fun J a b=>d2M J a b) 177 [.pointer (some ⟨g3,0,none⟩),.pointer (some ⟨g4,0,none⟩),.pointer (some ⟨g16,0,none⟩)] (ns.map fun q=>askF l day x.kids[0] q) (by rw[List.length_map];omega) (fun J hJ i hi=>by
              have hi':i<ns.length:=by rw[List.length_map]at hi;exact hi
              rw[List.getElem_map]
              exact c7H _ v l (hv.le hJ) day N (fun I2 hI2=>ih I2 (ILe.trans (jg3.trans (jg4.trans jg5)) (ILe.trans (j113.trans jg16) (ILe.trans hJ hI2)))) x ho hn hN g3 g4 g16 (cg3.le hJ) (cg4.le hJ) (hA.le hJ) hc hm h1 _ ns (hns.le hJ) (cg16.le hJ) i hi') 2) rfl rfl fun v123 I123 j123 q123=>?_
            obtain rfl:=q123;refine go 7 ?_;exact q_i (congrArg (Value.int .i64) (d1R p117 h1 hnp).symm)
           ·refine gC 6 (fun h124 p124=>?_) fun h124 p124=>?_
            ·have hk1:=a9T (a5Y hn).1 (.inr (.inr p124));have h1:0<x.kids.length:=oM;refine go 3 ?_;refine o_v rfl (a0H he rfl (cg16 0 _ rfl)) ?_;refine o_v rfl (OV.cast (u:=.int .i64 (((ns.map fun q=>askF l day x.kids[0] q).length:Nat):Int)) (a3w he rfl) (by rw[List.length_map])) ?_;refine go 2 ?_
             refine a0p (b7k _ 168 orT (fun J a b=>d6y J a b) 177 [.pointer (some ⟨g3,0,none⟩),.pointer (some ⟨g4,0,none⟩),.pointer (some ⟨g16,0,none⟩)] (ns.map fun q=>askF l day x.kids[0] q) (by rw[List.length_map];omega) (fun J hJ i hi=>by
               have hi':i<ns.length:=by rw[List.length_map]at hi;exact hi
               rw[List.getElem_map]
               exact c7H _ v l (hv.le hJ) day N (fun I2 hI2=>ih I2 (ILe.trans (jg3.trans (jg4.trans jg5)) (ILe.trans (j113.trans jg16) (ILe.trans hJ hI2)))) x ho hn hN g3 g4 g16 (cg3.le hJ) (cg4.le hJ) (hA.le hJ) hc hm h1 _ ns (hns.le hJ) (cg16.le hJ) i hi') 0) rfl rfl fun v130 I130 j130 q130=>?_
             obtain rfl:=q130;refine go 7 ?_;exact q_i (congrArg (Value.int .i64) (d1S p124 h1 hnp).symm)
            ·refine go 5 ?_;refine o_v rfl (a0H he rfl (cg16 0 _ rfl)) ?_;refine go 2 ?_;refine o_v rfl (a0H he rfl (cg4 3 _ rfl)) ?_;refine go 2 ?_;refine cV (b2u _ _) ?_;refine go 5 ?_;exact q_i (congrArg (Value.int .i64) (d1T oM hnp).symm)
 ·intro more hmo;refine go 5 ?_;refine o_v rfl (a0H he rfl (cg4 1 _ rfl)) ?_;refine go 1 ?_;refine o_v rfl (a0H he rfl (cg3 1 _ rfl)) ?_;refine go 1 ?_;refine cV (c1B _ ((a0f l p).getD zPart) s22 (RdS.one hs22) x.name day) ?_;refine go 5 fun g12=>?_
  refine gC 12 (fun h77 p77=>?_) fun h77 p77=>?_
  ·refine go 17 ?_;exact q_i (congrArg (Value.int .i64) (c8j oM p77).symm)
  ·refine go 7 ?_;refine cV (c7E _ _ more) ?_;refine go 7 ?_;refine o_v rfl (a0H he rfl (cg4 0 _ rfl)) ?_;refine gC 3 (fun h83 p83=>?_) fun h83 p83=>?_
   ·refine go 18 ?_
    rcases hmo with ⟨ho5,rfl⟩|⟨ho6,rfl⟩
    · omega
    exact q_i (congrArg (Value.int .i64) (d4Y ho6 p77).symm)
   ·refine go 6 ?_;refine cV (d2N _ _) ?_;refine go 14 ?_
    rcases hmo with ⟨ho5,rfl⟩|⟨ho6,rfl⟩
    · exact q_i (congrArg (Value.int .i64) (d4X ho5 p77).symm)
    · exact absurd ho6 p83
end Go.Proofs.YtgmkjpafapgccaaGreat
