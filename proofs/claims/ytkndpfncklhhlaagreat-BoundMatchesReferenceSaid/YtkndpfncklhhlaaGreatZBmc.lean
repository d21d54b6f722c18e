
import Derived.Test.YtkndpfncklhhlaaGreatZBmb
namespace Go.Proofs.YtkndpfncklhhlaaGreat
open Go Go.Sx Tryz
set_option linter.all false
set_option maxRecDepth 20000
set_option maxHeartbeats 4000000
instance:Has (a2A prog 184) ([.string ⟨#[]⟩,.string ⟨#[]⟩],2,32):=hk
instance:Has (a2A prog 54) ([.string ⟨#[]⟩,.string ⟨#[]⟩,.string ⟨#[]⟩,.string ⟨#[]⟩,.int .i64 0,.int .i64 0,.bool false,.slice none 0 0,.int .i64 0,.int .i64 0,.int .i64 0,.int .i64 0,.int .i64 0,.int .i64 0],14,160):=hk
instance:Has (a2A prog 72) ([.int .i64 0,.int .i64 0,.string ⟨#[]⟩,.string ⟨#[]⟩,.string ⟨#[]⟩,.string ⟨#[]⟩,.string ⟨#[]⟩,.string ⟨#[]⟩,.int .i64 0,.int .i64 0,.int .i64 0,.int .i64 0,.int .i64 0,.int .i64 0],14,160):=hk
instance:Has (a9w prog 52) (184,2):=hk
instance:Has (a3C prog 169 0) (0,false,1):=hk
instance:Has (a3C prog 169 1) (1,false,1):=hk
instance:Has (a3C prog 184 0) (0,false,1):=hk
instance:Has (a3C prog 184 1) (1,false,1):=hk
instance:Has (a3C prog 36 0) (0,true,2):=hk
instance:Has (a3C prog 36 1) (2,true,2):=hk
instance:Has (a3C prog 36 2) (4,true,2):=hk
instance:Has (a3C prog 54 0) (0,false,1):=hk
instance:Has (a3C prog 54 1) (1,false,1):=hk
instance:Has (a3C prog 54 2) (2,false,1):=hk
instance:Has (a3C prog 54 3) (3,false,1):=hk
instance:Has (a3C prog 54 4) (4,false,1):=hk
instance:Has (a3C prog 54 5) (5,false,1):=hk
instance:Has (a3C prog 54 6) (6,false,1):=hk
instance:Has (a3C prog 54 7) (7,false,1):=hk
instance:Has (a3C prog 54 8) (8,true,6):=hk
instance:Has (a3C prog 97 0) (0,false,1):=hk
instance:Has (plK prog 169) [(0,1),(1,1)]:=hk
instance:Has (plK prog 218) [(0,1),(1,1)]:=hk
instance:Has (plK prog 54) [(0,1),(1,1),(2,1),(3,1),(4,1),(5,1),(6,1),(7,1),(8,6)]:=hk
theorem T.sp_218:a9d prog 218=true:=by kernel_rfl
instance:Has (tyK prog 144) (false,1):=hk
instance:Has (tyK prog 169) (true,2):=hk
instance:Has (tyK prog 172) (false,1):=hk
instance:Has (tyK prog 184) (true,2):=hk
instance:Has (tyK prog 185) (false,1):=hk
instance:Has (tyK prog 218) (true,2):=hk
instance:Has (tyK prog 34) (true,2):=hk
instance:Has (tyK prog 52) (false,1):=hk
instance:Has (tyK prog 58) (false,1):=hk
instance:Has (tyK prog 97) (true,1):=hk
instance:Has (prog.underlying 144) (.map 9 3):=hk
instance:Has (prog.underlying 216) (.map 218 4):=hk
instance:Has (prog.underlying 234) (.int .u64):=hk
instance T.und_4:Has (prog.underlying 4) (.bool):=hk
instance:Has (prog.underlying 52) (.slice 184):=hk
instance:Has (a2r prog 169) [.slice none 0 0,.map none]:=hk
instance:Has (a2r prog 184) [.string ⟨#[]⟩,.string ⟨#[]⟩]:=hk
instance:Has (a2r prog 218) [.string ⟨#[]⟩,.string ⟨#[]⟩]:=hk
instance:Has (a2r prog 54) [.string ⟨#[]⟩,.string ⟨#[]⟩,.string ⟨#[]⟩,.string ⟨#[]⟩,.int .i64 0,.int .i64 0,.bool false,.slice none 0 0,.int .i64 0,.int .i64 0,.int .i64 0,.int .i64 0,.int .i64 0,.int .i64 0]:=hk
instance:Has (zvK prog 3) (.int .i64 0):=hk
theorem d3K (I:IMap) (v:Value) (l:List Part) (hv:RdS I v l) :
    FnX prog 115 #[.agg #[v]] I [] (fun u r=>∃g kvs,u = .agg #[v,.map (some g)]∧r = .mp g (a2l Value.string kvs)∧Ix kvs l∧(kvs.map Prod.fst).Nodup):=by
 have hv0:=hv;obtain⟨A,c0,rfl,hA,hc,hm⟩:=hv;refine enter func115 call115 rfl ntmps115 rfl fun w0=>?_;refine go 4 fun g1=>?_
 refine go 2 fun g2=>?_
 refine go 7 ?_;refine a7z (Value.string) he rfl fun r10=>?_;refine go 3 fun g3=>?_
 refine go 14 ?_;refine a0p ?_;refine a0p ?_;refine a0c ?_;refine a0p ?_
 refine a1i ((0:Nat)) ([]) (fun i kvs=>I)
  (fun i kvs=>[(1,.pointer (some ⟨g1,0,none⟩)),(2,.pointer (some ⟨g2,0,none⟩)),(3,.pointer (some ⟨g3,0,none⟩)),(13,.slice A l.length c0),(14,.int .i64 (l.length:Int)),(15,.int .i64 (i:Int))])
  (fun i kvs=>[.mp r10 (a2l Value.string kvs),.blk g3 169 [.slice A l.length c0,.map (some r10)],.blk g2 169 [.slice none 0 0,.map none],.blk g1 97 [.slice A l.length c0]])
  (fun i kvs=>i≤l.length∧Ix kvs (l.take i)∧(kvs.map Prod.fst).Nodup)
  (fun i kvs=>l.length-i) ⟨Nat.zero_le _,Ix.nil,List.nodup_nil⟩ rfl sb rfl ?_
 intro i kvs ⟨hi,hx,hnd⟩;refine gC 6 (fun h16 p16=>?_) fun h16 p16=>?_
 ·have hlt:i<l.length:=oM;refine go 7 ?_;obtain⟨b18,o18,w18,e18,c18,r18⟩:=RdA.at_ hA (i:=i) hlt;obtain⟨q18,rfl,B18,d18,rfl,hB18,hd18,hm18⟩:=r18;refine go 4 fun g5=>?_
  refine go 11 ?_;refine o_v rfl (a8v m1 (a0O he) he he (l[i].name) rfl rfl rfl rfl) ?_;refine gC 13 (fun h29 p29=>?_) fun h29 p29=>?_
  ·refine go 7 ?_;refine a0b ?_;refine a4l (_) (a0O he) he (l[i].name) rfl rfl rfl (rfl) ?_;refine go 8 ?_;refine a0b ?_;refine a0a ?_;exact a0t (i+1) (_) ⟨oM,by rw[←a0e hlt];exact hx.put (by rw[List.length_take];omega) (by simpa using h29),b8C hnd⟩ oM rfl sb rfl
  ·refine go 8 ?_;refine a0a ?_;exact a0t (i+1) (_) ⟨oM,by rw[←a0e hlt];exact hx.skip (by simpa using h29),hnd⟩ oM rfl sb rfl
 ·refine go 9 ?_;refine a0c ?_;refine go 5 ?_;refine a0a ?_;refine a0b ?_;refine a0a ?_;refine a0b ?_;refine a0a ?_;have e:i=l.length:=oM;subst e;rw[List.take_length]at hx
  exact q_x ⟨_,_,rfl,rfl,hx,hnd⟩
theorem c8f (I:IMap) (v:Value) (l:List Part) (hv:RdS I v l) (r:Nat) (kvs:List (ByteArray×Value)) (hx:Ix kvs l) (s:ByteArray) :
    FnK prog 120 #[.agg #[v,.map (some r)],.string s] I (.mp r (a2l Value.string kvs)) (PartIs I (a0C l s)):=by
 obtain⟨z,b,hz,hb,hfs,hfn⟩:=hx.look s;obtain⟨A,c0,rfl,hA,hc,hm⟩:=hv;refine enter func120 call120 rfl ntmps120 rfl fun w0=>?_;refine go 4 fun g2=>?_
 refine go 2 fun g4=>?_
 refine go 8 ?_;refine o_v rfl (a8v m2 (a0O he) he he (s) rfl rfl hz hb) ?_;refine gC 14 (fun h16 p16=>?_) fun h16 p16=>?_
 ·have hN:=hfn (by simpa using h16);refine go 11 ?_;refine a0a ?_;refine a0a ?_;exact q_k (PartIs.none hN)
 ·obtain⟨i,hi,rfl,hF⟩:=hfs (by simpa using h16);refine go 7 ?_;obtain⟨b21,o21,w21,e21,c21,r21⟩:=RdA.at_ hA (i:=i) hi;obtain⟨q21,rfl,B21,d21,rfl,hB21,hd21,hm21⟩:=r21;refine o_v rfl (a0i he rfl rfl e21 (i) rfl hi) ?_;refine go 8 ?_;refine a0a ?_;refine a0a ?_;exact q_k (PartIs.of hF ⟨_,rfl,B21,d21,rfl,hB21,hd21,hm21⟩)
theorem b3C (I:IMap) (v:Value) (l:List Part) (hv:RdS I v l) (f:FuncId) (nm:Part→ByteArray) (hp:∀x vs,Enc.rd I vs x→FnV prog f #[.agg vs.toArray] I (.string (nm x))) :
    FnV prog 165 #[v,.func (.func f) #[] #[]] I (.bool (b8N nm l)):=by
 obtain⟨A,c0,rfl,hA,hc,hm⟩:=hv;refine enter func165 call165 rfl ntmps165 rfl fun w0=>?_;refine go 12 ?_
 refine a0w (α:=Nat) 1 (fun i=>I)
  (fun i=>[(0,.slice A l.length c0),(1,.func (.func f) #[] #[]),(5,.int .i64 (i:Int))])
  (fun i=>[])
  (fun i=>1≤i∧(i≤l.length∨i=1)∧a2m (a4F nm) l i=true)
  (fun i=>l.length-i) ⟨oM,.inr rfl,b3B (nm:=nm) l⟩ rfl sb rfl ?_
 intro i ⟨h1,hi,hn⟩;refine gC 9 (fun h9 p9=>?_) fun h9 p9=>?_
 ·have hlt:i<l.length:=oM;refine go 6 ?_;refine dG 0 4 ?_;obtain⟨b16,o16,w16,e16,c16,r16⟩:=RdA.at_ hA (i:=i-1) oM;refine a0F 4 rfl rfl (by kernel_rfl) rfl .slnil rfl (a0i he rfl rfl e16 (i-1) oM oM) ?_;refine a0F 5 rfl rfl (by kernel_rfl) rfl .slnil rfl (a2P he rfl c16 (Enc.len r16)) ?_;refine dG 7 3 ?_;obtain⟨b22,o22,w22,e22,c22,r22⟩:=RdA.at_ hA (i:=i) hlt;refine dG 10 1 ?_;refine a0F 11 rfl rfl (by kernel_rfl) rfl .slnil rfl (a2P he rfl c22 (Enc.len r22)) ?_;refine dH 6 0 ?_;refine cV (hp _ _ r16) ?_;refine dH 12 0 ?_;refine cV (hp _ _ r22) ?_;refine dG 13 1 ?_;refine gC 2 (fun h25 p25=>?_) fun h25 p25=>?_
  ·refine go 12 ?_;exact q_v (congrArg Value.bool (c1V h1 hlt (by simpa using h25)).symm)
  ·refine go 9 ?_;exact a0s (i+1) ⟨oM,.inl oM,b6V h1 hlt hn (by simpa using h25)⟩ oM rfl sb rfl
 ·refine go 12 ?_;exact q_v (congrArg Value.bool (show b8N nm l=true from b9w oM hn).symm)
theorem b5p (I:IMap) (v:Value) (l:List Prp) (hv:RdS I v l) (f:FuncId) (nm:Prp→ByteArray) (hp:∀x vs,Enc.rd I vs x→FnV prog f #[.agg vs.toArray] I (.string (nm x))) :
    FnV prog 204 #[v,.func (.func f) #[] #[]] I (.bool (b8N nm l)):=by
 obtain⟨A,c0,rfl,hA,hc,hm⟩:=hv;refine enter func204 call204 rfl ntmps204 rfl fun w0=>?_;refine go 12 ?_
 refine a0w (α:=Nat) 1 (fun i=>I)
  (fun i=>[(0,.slice A l.length c0),(1,.func (.func f) #[] #[]),(5,.int .i64 (i:Int))])
  (fun i=>[])
  (fun i=>1≤i∧(i≤l.length∨i=1)∧a2m (a4F nm) l i=true)
  (fun i=>l.length-i) ⟨oM,.inr rfl,b3B (nm:=nm) l⟩ rfl sb rfl ?_
 intro i ⟨h1,hi,hn⟩;refine gC 9 (fun h9 p9=>?_) fun h9 p9=>?_
 ·have hlt:i<l.length:=oM;refine go 6 ?_;refine dG 0 4 ?_;obtain⟨b16,o16,w16,e16,c16,r16⟩:=RdA.at_ hA (i:=i-1) oM;refine a0F 4 rfl rfl (by kernel_rfl) rfl .slnil rfl (a0i he rfl rfl e16 (i-1) oM oM) ?_;refine a0F 5 rfl rfl (by kernel_rfl) rfl .slnil rfl (a2P he rfl c16 (Enc.len r16)) ?_;refine dG 7 3 ?_;obtain⟨b22,o22,w22,e22,c22,r22⟩:=RdA.at_ hA (i:=i) hlt;refine dG 10 1 ?_;refine a0F 11 rfl rfl (by kernel_rfl) rfl .slnil rfl (a2P he rfl c22 (Enc.len r22)) ?_;refine dH 6 0 ?_;refine cV (hp _ _ r16) ?_;refine dH 12 0 ?_;refine cV (hp _ _ r22) ?_;refine dG 13 1 ?_;refine gC 2 (fun h25 p25=>?_) fun h25 p25=>?_
  ·refine go 12 ?_;exact q_v (congrArg Value.bool (c1V h1 hlt (by simpa using h25)).symm)
  ·refine go 9 ?_;exact a0s (i+1) ⟨oM,.inl oM,b6V h1 hlt hn (by simpa using h25)⟩ oM rfl sb rfl
 ·refine go 12 ?_;exact q_v (congrArg Value.bool (show b8N nm l=true from b9w oM hn).symm)
theorem c2s (I:IMap) (x:Ivl) :
    FnV prog 202 #[.agg x.cells.toArray] I (.bool (a2i x)):=by
 refine enter func202 call202 rfl ntmps202 rfl fun w0=>?_;refine go 4 fun g1=>?_
 refine gS 9 6 (fun h6 p6=>?_) fun h6 p6=>?_
 ·refine gS 7 13 (fun h13 p13=>?_) fun h13 p13=>?_
  ·refine go 9 ?_;exact q_v (congrArg Value.bool (by simp only[a2i,h6,h13,bS]))
  ·refine go 9 ?_;exact q_v (congrArg Value.bool (by simp only[a2i,h6,h13,bS]))
 ·refine go 16 ?_;exact q_v (congrArg Value.bool (by simp only[a2i,h6,bS]))
theorem d2y (I:IMap) (x:Prp) (hs:Sm x.key) :
    FnV prog 203 #[.agg x.cells.toArray] I (.bool (a4L x)):=by
 refine enter func203 call203 rfl ntmps203 rfl fun w0=>?_;refine go 4 fun g1=>?_
 refine go 8 ?_;refine cV (a7X _ _ hs) ?_;refine gS 1 6 (fun h6 p6=>?_) fun h6 p6=>?_
 ·refine gS 5 11 (fun h11 p11=>?_) fun h11 p11=>?_
  ·refine go 10 ?_;exact q_v (congrArg Value.bool (by simp only[a4L,h6,h11,bS]))
  ·refine go 10 ?_;exact q_v (congrArg Value.bool (by simp only[a4L,h6,h11,bS]))
 ·refine go 15 ?_;exact q_v (congrArg Value.bool (by simp only[a4L,h6,bS]))
theorem d2z (I:IMap) (x:Prp) (vs:List Value) (h:Enc.rd I vs x) :
    FnV prog 205 #[.agg vs.toArray] I (.string x.key):=by
 obtain rfl:=h;refine enter func205 call205 rfl ntmps205 rfl fun w0=>?_;refine go 4 fun g1=>?_
 refine go 12 ?_;exact q_v rfl
theorem d2W (I:IMap) (x:Part) (vs:List Value) (h:Enc.rd I vs x) :
    FnV prog 166 #[.agg vs.toArray] I (.string x.name):=by
 obtain⟨q,rfl,B,d,rfl,hB,hd,hm⟩:=h;refine enter func166 call166 rfl ntmps166 rfl fun w0=>?_;refine go 4 fun g1=>?_
 refine go 12 ?_;exact q_v rfl
theorem c7s (I:IMap) (x:Part) (vs:List Value) (h:Enc.rd I vs x) :
    FnV prog 118 #[.agg vs.toArray] I (.string x.name):=by
 obtain⟨q,rfl,B,d,rfl,hB,hd,hm⟩:=h;refine enter func118 call118 rfl ntmps118 rfl fun w0=>?_;refine go 4 fun g1=>?_
 refine go 12 ?_;exact q_v rfl
theorem d0E (I:IMap) (x:Prp) (vs:List Value) (h:Enc.rd I vs x) :
    FnV prog 127 #[.agg vs.toArray] I (.string x.key):=by
 obtain rfl:=h;refine enter func127 call127 rfl ntmps127 rfl fun w0=>?_;refine go 4 fun g1=>?_
 refine go 12 ?_;exact q_v rfl
theorem c8g (I:IMap) (v:Value) (l:List Kind) (hv:RdS I v l) (p:Part) (D:Option Addr) (d:Nat) (hD:RdS I (.slice D p.props.length d) p.props) (hs:SmP p) :
    FnV prog 167 #[.agg #[v],.agg (p.cells (.slice D p.props.length d)).toArray] I (.bool (a3U l p)):=by
 have hDA:RdA I D p.props:=(by obtain⟨_,_,e,h,_⟩:=hD;cases e;exact h);have hDl:p.props.length≤d∧d≤9223372036854775807:=(by obtain⟨_,_,e,h,h1,h2⟩:=hD;cases e;exact⟨h1,h2⟩);refine enter func167 call167 rfl ntmps167 rfl fun w0=>?_;refine go 4 fun g2=>?_
 refine go 2 fun g3=>?_
 refine go 20 ?_;refine a2p (b1L I _ l hv p.kind) rfl rfl fun v15 q15=>?_;obtain⟨vs,rfl,ss,rfl,hsl⟩:=q15;refine go 5 fun g7=>?_
 refine go 1 ?_;refine a1A _ he rfl rfl rfl rfl rfl (by simp[Kind.cells,hsl.one];exact⟨rfl,rfl⟩) ?_;refine go 4 ?_;refine a1h (I':=I) (L':=[(2,.pointer (some ⟨g2,0,none⟩)),(3,.pointer (some ⟨g3,0,none⟩)),(5,.func (.func 202) #[] #[]),(6,.func (.func 203) #[] #[]),(48,.bool (a3F l p))]) (H':=[.blk g3 54 (p.cells (.slice D p.props.length d)),.blk g2 24 [v]]) ?_ ?_
 ·refine gS 4 20 (fun h20 p20=>?_) fun h20 p20=>?_
  ·refine go 30 ?_;refine a0a ?_;exact a0h ⟨rfl,rfl,rfl,rfl,(bB (by simp only[a3F,h20,bS])),trivial⟩ rfl rfl
  ·refine go 3 ?_;refine a0z rfl rfl h20 (a0x (a7X _ _ hs.1) rfl rfl ?_);refine gS 3 26 (fun h26 p26=>?_) fun h26 p26=>?_
   ·refine go 24 ?_;refine a0a ?_;exact a0h ⟨rfl,rfl,rfl,rfl,(bB (by simp only[a3F,h20,h26,bS])),trivial⟩ rfl rfl
   ·refine gS 5 31 (fun h31 p31=>?_) fun h31 p31=>?_
    ·refine go 19 ?_;refine a0a ?_;exact a0h ⟨rfl,rfl,rfl,rfl,(bB (by simp only[a3F,h20,h26,h31,bS])),trivial⟩ rfl rfl
    ·refine gS 7 38 (fun h38 p38=>?_) fun h38 p38=>?_
     ·refine go 12 ?_;refine a0a ?_;exact a0h ⟨rfl,rfl,rfl,rfl,(bB (by simp only[a3F,h20,h26,h31,h38,bS])),trivial⟩ rfl rfl
     ·refine gS 5 43 (fun h43 p43=>?_) fun h43 p43=>?_
      ·refine go 7 ?_;refine a0a ?_;exact a0h ⟨rfl,rfl,rfl,rfl,(bB (by simp only[a3F,h20,h26,h31,h38,h43,bS])),trivial⟩ rfl rfl
      ·refine go 7 ?_;refine a0a ?_;exact a0h ⟨rfl,rfl,rfl,rfl,(bB (by simp only[a3F,h20,h26,h31,h38,h43,bS])),trivial⟩ rfl rfl
 ·refine gC 0 (fun h48 p48=>?_) fun h48 p48=>?_
  ·refine go 8 ?_;exact q_v (congrArg Value.bool (by simp only[a3U,h48];rfl))
  ·refine go 12 ?_
   refine a0w (α:=Nat) 0 (fun i=>I)
    (fun i=>[(2,.pointer (some ⟨g2,0,none⟩)),(3,.pointer (some ⟨g3,0,none⟩)),(5,.func (.func 202) #[] #[]),(6,.func (.func 203) #[] #[]),(50,.slice D p.props.length d),(51,.int .i64 (p.props.length:Int)),(52,.int .i64 (i:Int))])
    (fun i=>[.blk g3 54 (p.cells (.slice D p.props.length d)),.blk g2 24 [v]])
    (fun i=>i≤p.props.length∧a2m (fun _ q=>a4L q) p.props i=true)
    (fun i=>p.props.length-i) ⟨Nat.zero_le _,rfl⟩ rfl sb rfl ?_
   intro i ⟨hi,hn⟩;refine gC 6 (fun h53 p53=>?_) fun h53 p53=>?_
   ·have hlt:i<p.props.length:=oM;refine go 6 ?_;obtain⟨b54,o54,w54,e54,c54,r54⟩:=RdA.at_ hDA (i:=i) hlt;obtain rfl:=r54;refine go 4 fun g10=>?_
    refine go 9 ?_;refine cV (d2y _ p.props[i] (hs.2 _ (List.getElem_mem hlt))) ?_;refine gC 3 (fun h59 p59=>?_) fun h59 p59=>?_
    ·refine go 12 ?_;exact q_v (congrArg Value.bool (by simp only[a3U,h48,a0R (f:=fun _ q=>a4L q) hlt (by simpa using h59),bS]))
    ·refine go 8 ?_;refine a0a ?_;exact a0s (i+1) ⟨oM,a0T hn hlt (by simpa using h59)⟩ oM rfl sb rfl
   ·have hAll:a2m (fun _ q=>a4L q) p.props p.props.length=true:=(show i=p.props.length from oM)▸hn;refine go 10 ?_;refine cV (b5p _ _ p.props hD _ Prp.key (fun x vs hr=>d2z _ x vs hr)) ?_;refine gS 1 64 (fun h64 p64=>?_) fun h64 p64=>?_
    ·refine go 3 ?_;refine a0P (a0z rfl rfl h64 (a0k rfl (a0J (p.life.km.cells) m0 he rfl rfl rfl) ?_));refine go 1 ?_;refine a0z rfl rfl h64 (a0x (c2s _ p.life.km) rfl rfl ?_);refine gS 2 71 (fun h71 p71=>?_) fun h71 p71=>?_
     ·refine go 3 ?_;refine a0P (a0z rfl rfl h71 (a0k rfl (a0J (p.life.cycles.cells) m0 he rfl rfl rfl) ?_));refine go 1 ?_;refine a0z rfl rfl h71 (a0x (c2s _ p.life.cycles) rfl rfl ?_);refine gS 2 78 (fun h78 p78=>?_) fun h78 p78=>?_
      ·refine go 3 ?_;refine a0P (a0z rfl rfl h78 (a0k rfl (a0J (p.life.damage.cells) m0 he rfl rfl rfl) ?_));refine go 1 ?_;refine a0z rfl rfl h78 (a0x (c2s _ p.life.damage) rfl rfl ?_);refine go 6 ?_;exact q_v (congrArg Value.bool (by simp only[a3U,h48,hAll,h53,h64,h71,h78,bS]))
      ·refine go 11 ?_;exact q_v (congrArg Value.bool (by simp only[a3U,h48,hAll,h53,h64,h71,h78,bS]))
     ·refine go 18 ?_;exact q_v (congrArg Value.bool (by simp only[a3U,h48,hAll,h53,h64,h71,bS]))
    ·refine go 25 ?_;exact q_v (congrArg Value.bool (by simp only[a3U,h48,hAll,h53,h64,bS]))
theorem b6f (p q:ByteArray×ByteArray):eqV prog 9 218 (b0N p) (b0N q)=some (decide (p=q)):=by
 have e:eqV prog 9 218 (b0N p) (b0N q)=some (decide (p.1=q.1)&&(decide (p.2=q.2)&&true)):=by kernel_rfl
 rw[e];obtain⟨a,b⟩:=p;obtain⟨c,d⟩:=q
 simp
theorem c8h (I:IMap) (vc:Value) (c:List Kind) (hvc:RdS I vc c) (hsc:SmC c) (v:Value) (l:List Part) (hv:RdS I v l) (hsf:SmF l) :
    FnV prog 114 #[.agg #[vc],.agg #[v]] I (.bool (a2Z c l)):=by
 have hv0:=hv;obtain⟨A,c0,rfl,hA,hc,hm⟩:=hv;refine enter func114 call114 rfl ntmps114 rfl fun w0=>?_;refine go 4 fun g2=>?_
 refine go 2 fun g3=>?_
 refine go 5 ?_;refine a1h (I':=I) (L':=[(2,.pointer (some ⟨g2,0,none⟩)),(3,.pointer (some ⟨g3,0,none⟩)),(26,.bool (b4v c l))]) (H':=[.blk g3 97 [.slice A l.length c0],.blk g2 24 [vc]]) ?_ ?_
 ·refine go 3 ?_;refine cV (a8H _ _ c hvc hsc) ?_;refine gS 2 15 (fun h15 p15=>?_) fun h15 p15=>?_
  ·refine go 13 ?_;exact a0h ⟨rfl,rfl,(bB (by simp only[b4v,h15,bS])),trivial⟩ rfl rfl
  ·refine gS 6 21 (fun h21 p21=>?_) fun h21 p21=>?_
   ·refine go 7 ?_;exact a0h ⟨rfl,rfl,(bB (by simp only[b4v,h15,h21,bS])),trivial⟩ rfl rfl
   ·refine go 3 ?_;refine a0z rfl rfl h21 (a0x (b3C _ _ l hv0 _ Part.name (fun x vs hr=>d2W _ x vs hr)) rfl rfl ?_);refine go 4 ?_;exact a0h ⟨rfl,rfl,(bB (by simp only[b4v,h15,h21,bS])),trivial⟩ rfl rfl
 ·refine gC 0 (fun h26 p26=>?_) fun h26 p26=>?_
  ·refine go 8 ?_;exact q_v (congrArg Value.bool (by simp only[a2Z,h26];rfl))
  ·refine go 6 ?_;refine a3f (d3K _ _ l hv0) rfl rfl fun v28 s28 q28=>?_;obtain⟨m28,kvs,rfl,rfl,hIx,_⟩:=q28;refine go 2 fun g5=>?_
   refine go 7 ?_;refine a7z (b0N) he rfl fun r29=>?_;refine go 13 ?_;refine a0A ?_;refine a0A ?_;refine a0p ?_;refine a0A ?_;refine a0A ?_
   refine a0w (α:=Nat) 0 (fun i=>I)
    (fun i=>[(2,.pointer (some ⟨g2,0,none⟩)),(3,.pointer (some ⟨g3,0,none⟩)),(5,.pointer (some ⟨g5,0,none⟩)),(6,.map (some r29)),(31,.slice A l.length c0),(32,.int .i64 (l.length:Int)),(33,.int .i64 (i:Int))])
    (fun i=>[.mp r29 (a2l b0N (a2Q a3z (fun _=>.bool true) (a3w (l.take i)))),.mp m28 (a2l Value.string kvs),.blk g5 169 [.slice A l.length c0,.map (some m28)],.blk g3 97 [.slice A l.length c0],.blk g2 24 [vc]])
    (fun i=>i≤l.length∧a2m (a3g c l) l i=true)
    (fun i=>l.length-i) ⟨Nat.zero_le _,rfl⟩ rfl sb rfl ?_
   intro i ⟨hi,hn⟩;refine gC 6 (fun h34 p34=>?_) fun h34 p34=>?_
   ·have hlt:i<l.length:=oM;refine go 6 ?_;obtain⟨b35,o35,w35,e35,c35,r35⟩:=RdA.at_ hA (i:=i) hlt;obtain⟨q35,rfl,B35,d35,rfl,hB35,hd35,hm35⟩:=r35;refine go 4 fun g8=>?_
    refine go 6 ?_;refine a1h (I':=I) (L':=[(2,.pointer (some ⟨g2,0,none⟩)),(3,.pointer (some ⟨g3,0,none⟩)),(5,.pointer (some ⟨g5,0,none⟩)),(6,.map (some r29)),(31,.slice A l.length c0),(32,.int .i64 (l.length:Int)),(33,.int .i64 (i:Int)),(8,.pointer (some ⟨g8,0,none⟩)),(49,.bool (b7V c l[i]))]) (H':=[.blk g8 54 (l[i].cells (.slice B35 l[i].props.length d35)),.mp r29 (a2l b0N (a2Q a3z (fun _=>.bool true) (a3w (l.take i)))),.mp m28 (a2l Value.string kvs),.blk g5 169 [.slice A l.length c0,.map (some m28)],.blk g3 97 [.slice A l.length c0],.blk g2 24 [vc]]) ?_ ?_
    ·refine go 4 ?_;refine cV (c8g _ _ c hvc l[i] B35 d35 ⟨_,_,rfl,hB35,hd35,hm35⟩ (hsf _ (List.getElem_mem hlt))) ?_;refine gS 2 41 (fun h41 p41=>?_) fun h41 p41=>?_
     ·refine go 10 ?_;exact a0h ⟨rfl,rfl,rfl,rfl,rfl,rfl,rfl,rfl,(bB (by simp only[b7V,h34,h41,bS])),trivial⟩ rfl rfl
     ·refine go 6 ?_;refine a0P (a0z rfl rfl h41 (a0k rfl (b0p he rfl rfl) ?_));refine go 3 ?_;exact a0h ⟨rfl,rfl,rfl,rfl,rfl,rfl,rfl,rfl,(bB (by simp only[b7V,h34,h41,bS])),trivial⟩ rfl rfl
    ·refine gC 0 (fun h49 p49=>?_) fun h49 p49=>?_
     ·refine go 13 ?_;exact q_v (congrArg Value.bool (by simp only[a2Z,a0R hlt (show a3g c l (l.take i) l[i]=false by simp only[a3g,h49];rfl),bS]))
     ·refine gC 10 (fun h52 p52=>?_) fun h52 p52=>?_
      ·refine go 9 ?_;refine a0a ?_;exact a0s (i+1) ⟨oM,a0T hn hlt (by simp only[a3g,h49,h52,bS])⟩ oM rfl sb (by rw[b5H hlt p52])
      ·refine go 8 ?_;refine a0c ?_;refine a9R (c8f _ _ l hv0 m28 kvs hIx l[i].into) rfl rfl fun v57 q57=>?_;obtain⟨vs,rfl,s57,rfl,hs57⟩:=q57;refine go 5 fun g9=>?_
       refine go 1 ?_;refine a1A _ he rfl rfl rfl rfl rfl (Enc.one (α:=Part) (I:=I) (x:=(a0C l l[i].into).getD zPart) ⟨s57,rfl,hs57⟩) ?_;refine go 12 fun g11=>?_
       refine go 6 ?_;refine a1h (I':=I) (L':=[(2,.pointer (some ⟨g2,0,none⟩)),(3,.pointer (some ⟨g3,0,none⟩)),(5,.pointer (some ⟨g5,0,none⟩)),(6,.map (some r29)),(31,.slice A l.length c0),(32,.int .i64 (l.length:Int)),(33,.int .i64 (i:Int)),(8,.pointer (some ⟨g8,0,none⟩)),(11,.pointer (some ⟨g11,0,none⟩)),(90,.bool (b1F c l (l.take i) l[i]))]) (H':=[.blk g11 218 [.string l[i].into,.string l[i].slot],.blk g8 54 (l[i].cells (.slice B35 l[i].props.length d35)),.mp r29 (a2l b0N (a2Q a3z (fun _=>.bool true) (a3w (l.take i)))),.mp m28 (a2l Value.string kvs),.blk g5 169 [.slice A l.length c0,.map (some m28)],.blk g3 97 [.slice A l.length c0],.blk g2 24 [vc]]) ?_ ?_
       ·refine gS 4 67 (fun h67 p67=>?_) fun h67 p67=>?_
        ·refine go 25 ?_;refine a0b ?_;refine a0a ?_;refine a0W ?_;refine a0W ?_;refine a0W ?_;refine a0A ?_;refine a0W ?_;refine a0W ?_;refine a0W ?_;exact a0h ⟨rfl,rfl,rfl,rfl,rfl,rfl,rfl,rfl,rfl,(bB (by simp only[b1F,h49,h52,h67,bS])),trivial⟩ rfl rfl
        ·refine gS 4 71 (fun h71 p71=>?_) fun h71 p71=>?_
         ·refine go 21 ?_;refine a0b ?_;refine a0a ?_;refine a0W ?_;refine a0W ?_;refine a0W ?_;refine a0A ?_;refine a0W ?_;refine a0W ?_;refine a0W ?_;exact a0h ⟨rfl,rfl,rfl,rfl,rfl,rfl,rfl,rfl,rfl,(bB (by simp only[b1F,h49,h52,h67,h71,bS])),trivial⟩ rfl rfl
         ·refine gS 4 75 (fun h75 p75=>?_) fun h75 p75=>?_
          ·refine go 17 ?_;refine a0b ?_;refine a0a ?_;refine a0W ?_;refine a0W ?_;refine a0W ?_;refine a0A ?_;refine a0W ?_;refine a0W ?_;refine a0W ?_;exact a0h ⟨rfl,rfl,rfl,rfl,rfl,rfl,rfl,rfl,rfl,(bB (by simp only[b1F,h49,h52,h67,h71,h75,bS])),trivial⟩ rfl rfl
          ·refine go 2 ?_;refine a0P (a0z rfl rfl h75 (a0k rfl (c3b m4 (b6v T.sp_218 b6f) he he (a3z l[i]) rfl rfl (a8P a3z _ _)) ?_));refine gS 2 80 (fun h80 p80=>?_) fun h80 p80=>?_
           ·refine go 12 ?_;refine a0b ?_;refine a0a ?_;refine a0W ?_;refine a0W ?_;refine a0W ?_;refine a0A ?_;refine a0W ?_;refine a0W ?_;refine a0W ?_;exact a0h ⟨rfl,rfl,rfl,rfl,rfl,rfl,rfl,rfl,rfl,(bB (by simp only[b1F,h49,h52,h67,h71,h75,h80,bS])),trivial⟩ rfl rfl
           ·refine a0P (a0z rfl rfl h80 (a0k rfl (a4n m7 he rfl rfl) ?_));refine go 7 ?_;refine a0z rfl rfl h80 (a0x (b5Z _ _ c hvc ((a0C l l[i].into).getD zPart).kind l[i].slot l[i].kind) rfl rfl ?_);refine go 4 ?_;refine a0b ?_;refine a0a ?_;refine a0W ?_;refine a0W ?_;refine a0W ?_;refine a0A ?_;refine a0W ?_;refine a0W ?_;refine a0W ?_;exact a0h ⟨rfl,rfl,rfl,rfl,rfl,rfl,rfl,rfl,rfl,(bB (by simp only[b1F,h49,h52,h67,h71,h75,h80,bS])),trivial⟩ rfl rfl
       ·refine gC 0 (fun h90 p90=>?_) fun h90 p90=>?_
        ·refine go 13 ?_;exact q_v (congrArg Value.bool (by simp only[a2Z,a0R hlt (show a3g c l (l.take i) l[i]=false by simp only[a3g,h52,h90];simp),bS]))
        ·refine go 6 ?_;have h90n:hit a3z (a3w (l.take i)) (a3z l[i])=false:=by revert h90;simp only[b1F];cases hit a3z (a3w (l.take i)) (a3z l[i])<;>simp
         refine a0c ?_;refine a4l (a2Q a3z (fun _=>.bool true) (a3w (l.take (i+1)))) (b6v T.sp_218 b6f) he (a3z l[i]) rfl rfl rfl ((a9K a3z (fun _=>.bool true) (a3w (l.take i)) l[i] (a7q h90n)).trans (by rw[b4a hlt p52])) ?_;refine go 8 ?_;refine a0b ?_;refine a0a ?_;refine a0b ?_;refine a0a ?_;exact a0s (i+1) ⟨oM,a0T hn hlt (by simp only[a3g,h49,h90,bS])⟩ oM rfl sb rfl
   ·refine go 12 ?_;have e:i=l.length:=oM;subst e;exact q_v (congrArg Value.bool (by simp only[a2Z,h26,hn,bS]))
theorem b2P (I:IMap) (v:Value) (l:List Part) (hv:RdS I v l) (hl:l.length≤1000000) (s:ByteArray) (f:FuncId) (cs:List Value) (nm:Part→ByteArray) (hp:∀x vs,Enc.rd I vs x→FnV prog f ([Value.agg vs.toArray,Value.string s]++cs).toArray I (.int .i64 (b9s (nm x) s))) (hs:Srt nm l) :
    FnV prog 168 #[v,.string s,.func (.func f) #[] cs.toArray] I (.tuple #[.int .i64 (a6t nm l s:Nat),.bool (atF nm l s)]):=by
 obtain⟨A,c0,rfl,hA,hc,hm⟩:=hv;refine enter func168 call168 rfl ntmps168 rfl fun w0=>?_;refine go 22 ?_
 refine a1i ((0:Nat)) (l.length) (fun i j=>I)
  (fun i j=>[(0,.slice A l.length c0),(1,.string s),(2,.func (.func f) #[] cs.toArray),(8,.int .i64 (l.length:Int)),(9,.int .i64 (i:Int)),(10,.int .i64 (j:Int))])
  (fun i j=>[])
  (fun i j=>i≤j∧j≤l.length∧(∀q x,q<i→l[q]? = some x→sLt (nm x) s=true)∧(∀q x,j≤q→l[q]? = some x→sLt (nm x) s=false))
  (fun i j=>j-i) ⟨Nat.zero_le _,Nat.le_refl _,fun q x h=>absurd h (Nat.not_lt_zero q),fun q x h hx=>by rw[List.getElem?_eq_none h]at hx;cases hx⟩ rfl sb rfl ?_
 intro i j ⟨hij,hj,hlo,hhi⟩;refine gC 8 (fun h17 p17=>?_) fun h17 p17=>?_
 ·have hlt:(i+j) / 2<l.length:=oM;refine go 8 ?_;refine o_v rfl (a2d he he rfl (m:=(i:Int)+(j:Int)) (wrap_u64 _ oM oM)) ?_;refine o_v rfl (a6J rfl (by decide)) ?_;refine o_v rfl (a2d he he rfl (m:=(((i+j) / 2:Nat):Int)) (by rw[IntKind.wrap_i64];omega)) ?_;refine go 8 ?_;obtain⟨b27,o27,w27,e27,c27,r27⟩:=RdA.at_ hA (i:=(i+j) / 2) hlt;refine o_v rfl (a0i he rfl rfl e27 ((i+j) / 2) oM hlt) ?_;refine o_v rfl (a2P he rfl c27 (Enc.len r27)) ?_;refine go 2 ?_;refine cV (hp _ _ r27) ?_;refine gC 3 (fun h31 p31=>?_) fun h31 p31=>?_
  ·refine go 7 ?_;exact a0t ((i+j) / 2+1) (j) ⟨oM,hj,d0M hs hlt (a8J.1 p31),hhi⟩ oM rfl sb rfl
  ·refine go 6 ?_;exact a0t (i) ((i+j) / 2) ⟨oM,oM,hlo,d0L hs hlt (by simpa[a8J]using p31)⟩ oM rfl sb rfl
 ·have hpos:a6t nm l s=i:=b6Z oM hlo (fun q x hq hx=>hhi q x oM hx);refine gS 12 39 (fun h39 p39=>?_) fun h39 p39=>?_
  ·have hlt:i<l.length:=oM;refine go 3 ?_;obtain⟨b43,o43,w43,e43,c43,r43⟩:=RdA.at_ hA (i:=i) hlt;refine go 1 ?_;refine a0P (a0z rfl rfl h39 (a0k rfl (a2P he rfl c43 (Enc.len r43)) ?_));refine go 2 ?_;refine a0z rfl rfl h39 (a0x (hp _ _ r43) rfl rfl ?_);refine go 8 ?_;exact q_v (by rw[hpos,d0G hpos hlt];simp only[b2T])
  ·refine go 15 ?_;exact q_v (by rw[hpos,c7t hpos oM])
theorem c2g (I:IMap) (x:Part) (vs:List Value) (h:Enc.rd I vs x) (s:ByteArray) (f:FuncId) (nm:Part→ByteArray) (hp:FnV prog f #[.agg vs.toArray] I (.string (nm x))) (g:Nat) (hg:ICells I g 0 [.func (.func f) #[] #[]]) :
    FnV prog 169 #[.agg vs.toArray,.string s,.pointer (some ⟨g,0,none⟩)] I (.int .i64 (b9s (nm x) s)):=by
 have hl:=Enc.len h;refine enter func169 call169 rfl ntmps169 rfl fun w0=>?_;refine go 4 fun g3=>?_
 refine go 5 ?_;refine o_v rfl (a1X he rfl (hg 0 _ rfl)) ?_;refine o_v rfl (a4n m0 he rfl hl) ?_;refine go 1 ?_;refine cV (hp) ?_;refine go 2 ?_;refine cV (a6F _ _ _) ?_;refine go 5 ?_;exact q_v rfl
theorem b4x (I:IMap) (v:Value) (l:List Prp) (hv:RdS I v l) (hl:l.length≤1000000) (s:ByteArray) (f:FuncId) (cs:List Value) (nm:Prp→ByteArray) (hp:∀x vs,Enc.rd I vs x→FnV prog f ([Value.agg vs.toArray,Value.string s]++cs).toArray I (.int .i64 (b9s (nm x) s))) (hs:Srt nm l) :
    FnV prog 176 #[v,.string s,.func (.func f) #[] cs.toArray] I (.tuple #[.int .i64 (a6t nm l s:Nat),.bool (atF nm l s)]):=by
 obtain⟨A,c0,rfl,hA,hc,hm⟩:=hv;refine enter func176 call176 rfl ntmps176 rfl fun w0=>?_;refine go 22 ?_
 refine a1i ((0:Nat)) (l.length) (fun i j=>I)
  (fun i j=>[(0,.slice A l.length c0),(1,.string s),(2,.func (.func f) #[] cs.toArray),(8,.int .i64 (l.length:Int)),(9,.int .i64 (i:Int)),(10,.int .i64 (j:Int))])
  (fun i j=>[])
  (fun i j=>i≤j∧j≤l.length∧(∀q x,q<i→l[q]? = some x→sLt (nm x) s=true)∧(∀q x,j≤q→l[q]? = some x→sLt (nm x) s=false))
  (fun i j=>j-i) ⟨Nat.zero_le _,Nat.le_refl _,fun q x h=>absurd h (Nat.not_lt_zero q),fun q x h hx=>by rw[List.getElem?_eq_none h]at hx;cases hx⟩ rfl sb rfl ?_
 intro i j ⟨hij,hj,hlo,hhi⟩;refine gC 8 (fun h17 p17=>?_) fun h17 p17=>?_
 ·have hlt:(i+j) / 2<l.length:=oM;refine go 8 ?_;refine o_v rfl (a2d he he rfl (m:=(i:Int)+(j:Int)) (wrap_u64 _ oM oM)) ?_;refine o_v rfl (a6J rfl (by decide)) ?_;refine o_v rfl (a2d he he rfl (m:=(((i+j) / 2:Nat):Int)) (by rw[IntKind.wrap_i64];omega)) ?_;refine go 8 ?_;obtain⟨b27,o27,w27,e27,c27,r27⟩:=RdA.at_ hA (i:=(i+j) / 2) hlt;refine o_v rfl (a0i he rfl rfl e27 ((i+j) / 2) oM hlt) ?_;refine o_v rfl (a2P he rfl c27 (Enc.len r27)) ?_;refine go 2 ?_;refine cV (hp _ _ r27) ?_;refine gC 3 (fun h31 p31=>?_) fun h31 p31=>?_
  ·refine go 7 ?_;exact a0t ((i+j) / 2+1) (j) ⟨oM,hj,d0M hs hlt (a8J.1 p31),hhi⟩ oM rfl sb rfl
  ·refine go 6 ?_;exact a0t (i) ((i+j) / 2) ⟨oM,oM,hlo,d0L hs hlt (by simpa[a8J]using p31)⟩ oM rfl sb rfl
 ·have hpos:a6t nm l s=i:=b6Z oM hlo (fun q x hq hx=>hhi q x oM hx);refine gS 12 39 (fun h39 p39=>?_) fun h39 p39=>?_
  ·have hlt:i<l.length:=oM;refine go 3 ?_;obtain⟨b43,o43,w43,e43,c43,r43⟩:=RdA.at_ hA (i:=i) hlt;refine go 1 ?_;refine a0P (a0z rfl rfl h39 (a0k rfl (a2P he rfl c43 (Enc.len r43)) ?_));refine go 2 ?_;refine a0z rfl rfl h39 (a0x (hp _ _ r43) rfl rfl ?_);refine go 8 ?_;exact q_v (by rw[hpos,d0G hpos hlt];simp only[b2T])
  ·refine go 15 ?_;exact q_v (by rw[hpos,c7t hpos oM])
theorem c5f (I:IMap) (x:Prp) (vs:List Value) (h:Enc.rd I vs x) (s:ByteArray) (f:FuncId) (nm:Prp→ByteArray) (hp:FnV prog f #[.agg vs.toArray] I (.string (nm x))) (g:Nat) (hg:ICells I g 0 [.func (.func f) #[] #[]]) :
    FnV prog 177 #[.agg vs.toArray,.string s,.pointer (some ⟨g,0,none⟩)] I (.int .i64 (b9s (nm x) s)):=by
 have hl:=Enc.len h;refine enter func177 call177 rfl ntmps177 rfl fun w0=>?_;refine go 4 fun g3=>?_
 refine go 5 ?_;refine o_v rfl (a1X he rfl (hg 0 _ rfl)) ?_;refine o_v rfl (a4n m0 he rfl hl) ?_;refine go 1 ?_;refine cV (hp) ?_;refine go 2 ?_;refine cV (a6F _ _ _) ?_;refine go 5 ?_;exact q_v rfl
theorem b0L (I:IMap) (v:Value) (l:List Part) (hv:RdS I v l) (hl:l.length≤1000000) :
    FnX prog 82 #[v] I [] (fun u r=>∃xss,r = .row u 54 14 l.length xss.flatten∧FlatC I xss l):=by
 have hv0:=hv;obtain⟨A,c0,rfl,hA,hc,hm⟩:=hv;refine enter func82 call82 rfl ntmps82 rfl fun w0=>?_;refine go 9 ?_;refine o_v rfl (b2F he rfl) ?_;refine gC 2 (fun h4 p4=>?_) fun h4 p4=>?_
 ·obtain rfl:l=[]:=List.eq_nil_of_length_eq_zero (by rcases Nat.eq_zero_or_pos l.length with h|h;exact h;obtain⟨_,_,e,_⟩:=hA h;subst e;cases h4);refine a0G 54 14 ?_;refine go 8 ?_;exact q_x ⟨[],rfl,.nil⟩
 ·refine go 6 fun v5=>?_
  refine go 2 ?_;refine a0y (hv0) rfl he he rfl rfl rfl rfl oM oM rfl fun v7 x7 f7=>?_;refine go 5 ?_;exact q_x (by obtain⟨xss,rfl,hx⟩:=FlatC.of f7;exact⟨xss,by rw[Nat.zero_add];rfl,hx⟩)
theorem b9S (I:IMap) (v:Value) (l:List Prp) (hv:RdS I v l) (hl:l.length≤1000000) :
    FnX prog 178 #[v] I [] (fun u r=>∃xss,r = .row u 184 2 l.length xss.flatten∧FlatC I xss l):=by
 have hv0:=hv;obtain⟨A,c0,rfl,hA,hc,hm⟩:=hv;refine enter func178 call178 rfl ntmps178 rfl fun w0=>?_;refine go 9 ?_;refine o_v rfl (b2F he rfl) ?_;refine gC 2 (fun h4 p4=>?_) fun h4 p4=>?_
 ·obtain rfl:l=[]:=List.eq_nil_of_length_eq_zero (by rcases Nat.eq_zero_or_pos l.length with h|h;exact h;obtain⟨_,_,e,_⟩:=hA h;subst e;cases h4);refine a0G 184 2 ?_;refine go 8 ?_;exact q_x ⟨[],rfl,.nil⟩
 ·refine go 6 fun v5=>?_
  refine go 2 ?_;refine a0y (hv0) rfl he he rfl rfl rfl rfl oM oM rfl fun v7 x7 f7=>?_;refine go 5 ?_;exact q_x (by obtain⟨xss,rfl,hx⟩:=FlatC.of f7;exact⟨xss,by rw[Nat.zero_add];rfl,hx⟩)
theorem b9R (I:IMap) (v:Value) (l:List Evt) (hv:RdS I v l) (hl:l.length≤1000000) :
    FnX prog 76 #[v] I [] (fun u r=>∃xss,r = .row u 72 14 l.length xss.flatten∧FlatC I xss l):=by
 have hv0:=hv;obtain⟨A,c0,rfl,hA,hc,hm⟩:=hv;refine enter func76 call76 rfl ntmps76 rfl fun w0=>?_;refine go 9 ?_;refine o_v rfl (b2F he rfl) ?_;refine gC 2 (fun h4 p4=>?_) fun h4 p4=>?_
 ·obtain rfl:l=[]:=List.eq_nil_of_length_eq_zero (by rcases Nat.eq_zero_or_pos l.length with h|h;exact h;obtain⟨_,_,e,_⟩:=hA h;subst e;cases h4);refine a0G 72 14 ?_;refine go 8 ?_;exact q_x ⟨[],rfl,.nil⟩
 ·refine go 6 fun v5=>?_
  refine go 2 ?_;refine a0y (hv0) rfl he he rfl rfl rfl rfl oM oM rfl fun v7 x7 f7=>?_;refine go 5 ?_;exact q_x (by obtain⟨xss,rfl,hx⟩:=FlatC.of f7;exact⟨xss,by rw[Nat.zero_add];rfl,hx⟩)
theorem a7V (args:Array Value) (w:World):(callFunc 207 args).run prog w=((Extern.SlicesOverlaps.overlaps #[58,58] #[4] args).run prog w).andThen fun v w'=>.ok (.value v) w':=by
 have h1:Extern.findNext Tryz.f207=none:=by kernel_rfl
 have h2:Extern.find Tryz.f207=some (Extern.SlicesOverlaps.overlaps #[58,58] #[4]):=by kernel_rfl
 have h3 : (Tryz.f207.name == "runtime.NumGoroutine") = false := by kernel_rfl
 have h4:Tryz.f207.body.isNone=true:=rfl
 simp only[callFunc,Sem.run_bind,run_program,Result.andThen_ok,func207,h3,h4,h1,h2]
 simp
theorem b2m (I:IMap) (b g la ca lb cb o:Nat) (c:List Value) (cs:List Value) (tt:Nat) (B:Option Addr) (hB:B=some ⟨g,o,none⟩) (hb:I b=some (.cells c.toArray tt (0,0))) (hcs:cs.length≠0) :
  FnK prog 207 #[.slice (some ⟨b,0,none⟩) la ca,.slice B lb cb] I (.blk g 54 cs) (fun u=>u = .bool false):=by
 subst hB;refine⟨fun w m=>?_⟩;unfold After;have hg:w.heap[g]? = some (.cells cs.toArray 54 (0,0)):=m.blk;have hbw:=m.con b _ hb
 have hne:b≠g:=by
  rintro rfl;have:=(m.priv _ (List.mem_cons_self ..) b rfl).1;rw[hb]at this;cases this
 rw[a7V,Lib.run_overlaps_apart (P:=prog) w 58 4 54 he 14 (fun w=>(a1d he w).2) ⟨b,0,none⟩ ⟨g,o,none⟩ la ca lb cb hne tt 54 c.length cs.length (by simp[World.shape?,hbw]) (by simp[World.shape?,hg]) hcs (by simp[World.frozen?,hbw]) (by simp[World.frozen?,hbw])];exact⟨_,I,[_],rfl,m,rfl,rfl,rfl⟩
theorem b0F (I:IMap) (y:Value) (x:Part) (hy:RdS I y [x]) :
    FnX prog 171 #[.slice none 0 0,.int .i64 0,y] I [] (fun u r=>∃zss,r = .row u 54 14 1 zss.flatten∧FlatC I zss [x]):=by
 have hy0:=hy;obtain⟨Y,yc,rfl,hA,hc,hm⟩:=hy;refine enter func171 call171 rfl ntmps171 rfl fun w0=>?_;refine a0G 54 14 ?_;refine go 9 ?_;refine o_v rfl (a0K he rfl rfl 0 rfl (Nat.le_refl _)) ?_;refine go 40 ?_;refine a0y (hy0) rfl he he rfl rfl rfl rfl (by simp) (by simp) rfl fun v25 x25 f25=>?_;refine go 6 ?_;exact q_x (by obtain⟨xss,rfl,hx⟩:=FlatC.of f25;exact⟨xss,rfl,hx⟩)
theorem b0E (I:IMap) (l:List Part) (xss rest:List (List Value)) (g cap i b yc:Nat) (hx:FlatC I xss l) (hR:Uk 14 rest) (hcap:l.length+rest.length=cap) (hmax:cap≤maxLen) (hl:l.length≤1000000) (hi:i≤l.length) (x:Part) (c c2:List Value) (hb:I b=some (.cells (c++c2).toArray 54 (0,0))) (hc:Enc.rd I c x) (hyc:1≤yc) (hyc2:yc≤9223372036854775807) :
    FnX prog 171 #[.slice (some ⟨g,0,none⟩) l.length cap,.int .i64 (i:Nat),.slice (some ⟨b,0,none⟩) 1 yc] I [(.blk g 54 (xss++rest).flatten)] (fun u r=>∃zss,r = .row u 54 14 (l.length+1) zss.flatten∧FlatC I zss (l.take i++x::l.drop i)):=by
 have hU:Uk 14 xss:=hx.uk;have hlen:=hx.len;have hV1:Uk 14 [c]:=(fun d hd=>by rw[List.mem_singleton.1 hd];exact Enc.len hc);have hcI:ICells I b 0 c:=(fun j u hu=>⟨_,_,_,hb,by rw[Nat.zero_add];simpa using (List.getElem?_append_left (List.getElem?_eq_some_iff.1 hu).1).trans hu⟩);have hY:RdS I (.slice (some ⟨b,0,none⟩) 1 yc) [x]:=⟨_,yc,rfl,fun _=>⟨b,0,rfl,fun q z hq=>by cases q with|zero=>(cases hq;exact⟨c,by simpa using hcI,hc⟩)|succ q=>simp at hq⟩,hyc,hyc2⟩;refine enter func171 call171 rfl ntmps171 rfl fun w0=>?_;refine go 9 ?_;refine o_v rfl (a0K he rfl rfl i rfl hi) ?_;refine gC 34 (fun h22 p22=>?_) fun h22 p22=>?_
 ·obtain rfl:i=l.length:=oM;refine go 5 ?_;refine a2q hU hR hlen hcap hmax ?_;refine a0y (hY) rfl he he rfl rfl rfl rfl (by simp;omega) (by simp;omega) rfl fun v25 x25 f25=>?_;refine go 6 ?_;exact q_x (by obtain⟨zss,rfl,hz⟩:=FlatC.of f25;exact⟨xss++zss,by rw[List.flatten_append];rfl,by rw[List.take_length,List.drop_length];exact hx.append hz⟩)
 ·refine go 9 ?_;refine o_v rfl (c5W he rfl) ?_;refine gC 3 (fun h31 p31=>?_) fun h31 p31=>?_
  ·refine go 4 ?_;refine o_v rfl (a1y he rfl rfl i rfl oM) ?_;refine go 4 ?_;refine o_v rfl (OV.cast (u:=.int .i64 ((l.length+1-i:Nat):Int)) (a1v rfl rfl ⟨oM,oM⟩) (congrArg (Value.int .i64) oM)) ?_;refine go 1 ?_;refine a8s (xss.take i) he he he rfl rfl rfl rfl (hU.append hR) (by rw[List.length_take];omega) (hU.take i) (fun _=>⟨rfl,by rw[List.take_append_of_le_length oM]⟩) oM oM oM (by unfold maxLen;omega) rfl fun g40 r40 hr40=>?_;refine go 7 ?_;refine o_v rfl (a0K he rfl rfl i rfl oM) ?_;refine go 2 ?_;have hU1:Uk 14 (xss.take i++List.replicate (l.length+1-i+r40) _):=(hU.take i).append (Uk.rep (c:=[.string ⟨#[]⟩,.string ⟨#[]⟩,.string ⟨#[]⟩,.string ⟨#[]⟩,.int .i64 0,.int .i64 0,.bool false,.slice none 0 0,.int .i64 0,.int .i64 0,.int .i64 0,.int .i64 0,.int .i64 0,.int .i64 0]) rfl _);refine a7y [c] i he rfl rfl (by simp;omega) hU1 hV1 (by simpa using Enc.one hc) (fun _=>a1O oM) (fun _=>⟨b,0,rfl,fun w mm j u hu=>(hcI j u (by simpa using hu)).at_ mm.con⟩) (by simp;omega) rfl ?_;refine go 3 ?_;refine ds1 ?_;refine dG 0 4 ?_;refine a0F 4 rfl rfl (by kernel_rfl) rfl (.cons _ (.refl _)) rfl (a0K he rfl rfl (i+1) oM oM) ?_;refine dG 5 2 ?_;refine a0F 7 rfl rfl (by kernel_rfl) rfl (.cons _ (.refl _)) rfl (a0K he rfl rfl i rfl oM) ?_;refine dH 8 0 ?_;have hU2:=((hU1.take i).append (hV1.append (hU1.drop (i+[c].length))));refine a7y (xss.drop i) (i+1) he rfl rfl (by simp;omega) hU2 (hU.drop i) (hx.drop i).one (fun _=>a1O oM) (fun h=>⟨g,i * 14,a1O (by simp at h;omega),fun w mm j u hu=>b2A (o:=i) (m:=l.length-i) m1 (hU.append hR) w mm j u (by rw[List.drop_append_of_le_length oM,List.take_append_of_le_length (by simp;omega),List.take_of_length_le (by simp;omega)];exact hu)⟩) (by simp;omega) rfl ?_;refine go 12 ?_;refine a0b ?_;refine a0a ?_;refine a4C (b6s hlen hi oM) ?_;refine a2q (m:=i+(l.length+1-i)) (cap:=i+(l.length+1-i)+r40) ((hU.take i).append (fun d hd=>by rcases List.mem_cons.1 hd with rfl|hd;exact Enc.len hc;exact hU.drop i d hd)) (Uk.rep rfl _) (by simp<;>omega) (by simp<;>omega) oM ?_;exact q_x (by exact⟨_,by congr 1<;>omega,(hx.take i).append (.cons hc (hx.drop i))⟩)
  ·have hr1:0<rest.length:=oM;refine go 8 ?_;refine o_v rfl (a1y he rfl rfl (l.length+1) oM oM) ?_;refine go 11 ?_;refine o_v rfl (a0K he rfl rfl (i+1) oM oM) ?_;refine go 1 ?_;refine a9R (b2m I b g 1 yc _ _ _ (c++c2) _ 54 _ (a1O (k:=14) (show i+1<cap from oM)) hb (by rw[a3a (hU.append hR),List.length_append];omega)) rfl rfl fun v67 q67=>?_;obtain rfl:=q67;refine go 5 ?_;refine ds1 ?_;refine dG 0 4 ?_;refine a0F 4 rfl rfl (by kernel_rfl) rfl (.cons _ .slnil) rfl (a0K he rfl rfl (i+1) oM oM) ?_;refine dG 5 2 ?_;refine a0F 7 rfl rfl (by kernel_rfl) rfl (.cons _ .slnil) rfl (a0K he rfl rfl i rfl oM) ?_;refine dH 8 0 ?_;refine a7y (((xss++rest).drop i).take (l.length-i)) (i+1) he rfl rfl (by simp;omega) (hU.append hR) (((hU.append hR).drop i).take _) (by rw[List.drop_append_of_le_length oM,List.take_append_of_le_length (by simp;omega)];exact ((hx.drop i).take _).one) (fun _=>a1O oM) (fun h=>⟨g,i * 14,a1O oM,fun w mm j u hu=>b2A (o:=i) m0 (hU.append hR) w mm j u hu⟩) (by simp;omega) rfl ?_;refine go 7 ?_;refine o_v rfl (a0K he rfl rfl i rfl oM) ?_;refine go 2 ?_;have hU3:=(((hU.append hR).take (i+1)).append ((((hU.append hR).drop i).take (l.length-i)).append ((hU.append hR).drop (i+1+(((xss++rest).drop i).take (l.length-i)).length))));refine a7y [c] i he rfl rfl (by simp;omega) hU3 hV1 (by simpa using Enc.one hc) (fun _=>a1O oM) (fun _=>⟨b,0,rfl,fun w mm j u hu=>(hcI j u (by simpa using hu)).at_ mm.con⟩) (by simp;omega) rfl ?_;refine go 11 ?_;refine a4C (b3j hlen hi hr1) ?_;refine a2q (m:=l.length+1) (cap:=cap) ((hU.take i).append (fun d hd=>by rcases List.mem_cons.1 hd with rfl|hd;exact Enc.len hc;exact hU.drop i d hd)) (hR.drop 1) (by simp<;>omega) (by simp<;>omega) hmax ?_;exact q_x (by exact⟨_,by congr 1<;>omega,(hx.take i).append (.cons hc (hx.drop i))⟩)
theorem a8z (args:Array Value) (w:World):(callFunc 213 args).run prog w=((Extern.SlicesOverlaps.overlaps #[52,52] #[4] args).run prog w).andThen fun v w'=>.ok (.value v) w':=by
 have h1:Extern.findNext Tryz.f213=none:=by kernel_rfl
 have h2:Extern.find Tryz.f213=some (Extern.SlicesOverlaps.overlaps #[52,52] #[4]):=by kernel_rfl
 have h3 : (Tryz.f213.name == "runtime.NumGoroutine") = false := by kernel_rfl
 have h4:Tryz.f213.body.isNone=true:=rfl
 simp only[callFunc,Sem.run_bind,run_program,Result.andThen_ok,func213,h3,h4,h1,h2]
 simp
theorem b3E (I:IMap) (b g la ca lb cb o:Nat) (c:List Value) (cs:List Value) (tt:Nat) (B:Option Addr) (hB:B=some ⟨g,o,none⟩) (hb:I b=some (.cells c.toArray tt (0,0))) (hcs:cs.length≠0) :
  FnK prog 213 #[.slice (some ⟨b,0,none⟩) la ca,.slice B lb cb] I (.blk g 184 cs) (fun u=>u = .bool false):=by
 subst hB;refine⟨fun w m=>?_⟩;unfold After;have hg:w.heap[g]? = some (.cells cs.toArray 184 (0,0)):=m.blk;have hbw:=m.con b _ hb
 have hne:b≠g:=by
  rintro rfl;have:=(m.priv _ (List.mem_cons_self ..) b rfl).1;rw[hb]at this;cases this
 rw[a8z,Lib.run_overlaps_apart (P:=prog) w 52 4 184 he 2 (fun w=>(a1d he w).2) ⟨b,0,none⟩ ⟨g,o,none⟩ la ca lb cb hne tt 184 c.length cs.length (by simp[World.shape?,hbw]) (by simp[World.shape?,hg]) hcs (by simp[World.frozen?,hbw]) (by simp[World.frozen?,hbw])];exact⟨_,I,[_],rfl,m,rfl,rfl,rfl⟩
theorem b1Y (I:IMap) (y:Value) (x:Prp) (hy:RdS I y [x]) :
    FnX prog 179 #[.slice none 0 0,.int .i64 0,y] I [] (fun u r=>∃zss,r = .row u 184 2 1 zss.flatten∧FlatC I zss [x]):=by
 have hy0:=hy;obtain⟨Y,yc,rfl,hA,hc,hm⟩:=hy;refine enter func179 call179 rfl ntmps179 rfl fun w0=>?_;refine a0G 184 2 ?_;refine go 9 ?_;refine o_v rfl (a0K he rfl rfl 0 rfl (Nat.le_refl _)) ?_;refine go 40 ?_;refine a0y (hy0) rfl he he rfl rfl rfl rfl (by simp) (by simp) rfl fun v25 x25 f25=>?_;refine go 6 ?_;exact q_x (by obtain⟨xss,rfl,hx⟩:=FlatC.of f25;exact⟨xss,rfl,hx⟩)
theorem b1X (I:IMap) (l:List Prp) (xss rest:List (List Value)) (g cap i b yc:Nat) (hx:FlatC I xss l) (hR:Uk 2 rest) (hcap:l.length+rest.length=cap) (hmax:cap≤maxLen) (hl:l.length≤1000000) (hi:i≤l.length) (x:Prp) (c c2:List Value) (hb:I b=some (.cells (c++c2).toArray 184 (0,0))) (hc:Enc.rd I c x) (hyc:1≤yc) (hyc2:yc≤9223372036854775807) :
    FnX prog 179 #[.slice (some ⟨g,0,none⟩) l.length cap,.int .i64 (i:Nat),.slice (some ⟨b,0,none⟩) 1 yc] I [(.blk g 184 (xss++rest).flatten)] (fun u r=>∃zss,r = .row u 184 2 (l.length+1) zss.flatten∧FlatC I zss (l.take i++x::l.drop i)):=by
 have hU:Uk 2 xss:=hx.uk;have hlen:=hx.len;have hV1:Uk 2 [c]:=(fun d hd=>by rw[List.mem_singleton.1 hd];exact Enc.len hc);have hcI:ICells I b 0 c:=(fun j u hu=>⟨_,_,_,hb,by rw[Nat.zero_add];simpa using (List.getElem?_append_left (List.getElem?_eq_some_iff.1 hu).1).trans hu⟩);have hY:RdS I (.slice (some ⟨b,0,none⟩) 1 yc) [x]:=⟨_,yc,rfl,fun _=>⟨b,0,rfl,fun q z hq=>by cases q with|zero=>(cases hq;exact⟨c,by simpa using hcI,hc⟩)|succ q=>simp at hq⟩,hyc,hyc2⟩;refine enter func179 call179 rfl ntmps179 rfl fun w0=>?_;refine go 9 ?_;refine o_v rfl (a0K he rfl rfl i rfl hi) ?_;refine gC 34 (fun h22 p22=>?_) fun h22 p22=>?_
 ·obtain rfl:i=l.length:=oM;refine go 5 ?_;refine a2q hU hR hlen hcap hmax ?_;refine a0y (hY) rfl he he rfl rfl rfl rfl (by simp;omega) (by simp;omega) rfl fun v25 x25 f25=>?_;refine go 6 ?_;exact q_x (by obtain⟨zss,rfl,hz⟩:=FlatC.of f25;exact⟨xss++zss,by rw[List.flatten_append];rfl,by rw[List.take_length,List.drop_length];exact hx.append hz⟩)
 ·refine go 9 ?_;refine o_v rfl (c5W he rfl) ?_;refine gC 3 (fun h31 p31=>?_) fun h31 p31=>?_
  ·refine go 4 ?_;refine o_v rfl (a1y he rfl rfl i rfl oM) ?_;refine go 4 ?_;refine o_v rfl (OV.cast (u:=.int .i64 ((l.length+1-i:Nat):Int)) (a1v rfl rfl ⟨oM,oM⟩) (congrArg (Value.int .i64) oM)) ?_;refine go 1 ?_;refine a8s (xss.take i) he he he rfl rfl rfl rfl (hU.append hR) (by rw[List.length_take];omega) (hU.take i) (fun _=>⟨rfl,by rw[List.take_append_of_le_length oM]⟩) oM oM oM (by unfold maxLen;omega) rfl fun g40 r40 hr40=>?_;refine go 7 ?_;refine o_v rfl (a0K he rfl rfl i rfl oM) ?_;refine go 2 ?_;have hU1:Uk 2 (xss.take i++List.replicate (l.length+1-i+r40) _):=(hU.take i).append (Uk.rep (c:=[.string ⟨#[]⟩,.string ⟨#[]⟩]) rfl _);refine a7y [c] i he rfl rfl (by simp;omega) hU1 hV1 (by simpa using Enc.one hc) (fun _=>a1O oM) (fun _=>⟨b,0,rfl,fun w mm j u hu=>(hcI j u (by simpa using hu)).at_ mm.con⟩) (by simp;omega) rfl ?_;refine go 3 ?_;refine ds1 ?_;refine dG 0 4 ?_;refine a0F 4 rfl rfl (by kernel_rfl) rfl (.cons _ (.refl _)) rfl (a0K he rfl rfl (i+1) oM oM) ?_;refine dG 5 2 ?_;refine a0F 7 rfl rfl (by kernel_rfl) rfl (.cons _ (.refl _)) rfl (a0K he rfl rfl i rfl oM) ?_;refine dH 8 0 ?_;have hU2:=((hU1.take i).append (hV1.append (hU1.drop (i+[c].length))));refine a7y (xss.drop i) (i+1) he rfl rfl (by simp;omega) hU2 (hU.drop i) (hx.drop i).one (fun _=>a1O oM) (fun h=>⟨g,i * 2,a1O (by simp at h;omega),fun w mm j u hu=>b2A (o:=i) (m:=l.length-i) m1 (hU.append hR) w mm j u (by rw[List.drop_append_of_le_length oM,List.take_append_of_le_length (by simp;omega),List.take_of_length_le (by simp;omega)];exact hu)⟩) (by simp;omega) rfl ?_;refine go 12 ?_;refine a0b ?_;refine a0a ?_;refine a4C (b6s hlen hi oM) ?_;refine a2q (m:=i+(l.length+1-i)) (cap:=i+(l.length+1-i)+r40) ((hU.take i).append (fun d hd=>by rcases List.mem_cons.1 hd with rfl|hd;exact Enc.len hc;exact hU.drop i d hd)) (Uk.rep rfl _) (by simp<;>omega) (by simp<;>omega) oM ?_;exact q_x (by exact⟨_,by congr 1<;>omega,(hx.take i).append (.cons hc (hx.drop i))⟩)
  ·have hr1:0<rest.length:=oM;refine go 8 ?_;refine o_v rfl (a1y he rfl rfl (l.length+1) oM oM) ?_;refine go 11 ?_;refine o_v rfl (a0K he rfl rfl (i+1) oM oM) ?_;refine go 1 ?_;refine a9R (b3E I b g 1 yc _ _ _ (c++c2) _ 184 _ (a1O (k:=2) (show i+1<cap from oM)) hb (by rw[a3a (hU.append hR),List.length_append];omega)) rfl rfl fun v67 q67=>?_;obtain rfl:=q67;refine go 5 ?_;refine ds1 ?_;refine dG 0 4 ?_;refine a0F 4 rfl rfl (by kernel_rfl) rfl (.cons _ .slnil) rfl (a0K he rfl rfl (i+1) oM oM) ?_;refine dG 5 2 ?_;refine a0F 7 rfl rfl (by kernel_rfl) rfl (.cons _ .slnil) rfl (a0K he rfl rfl i rfl oM) ?_;refine dH 8 0 ?_;refine a7y (((xss++rest).drop i).take (l.length-i)) (i+1) he rfl rfl (by simp;omega) (hU.append hR) (((hU.append hR).drop i).take _) (by rw[List.drop_append_of_le_length oM,List.take_append_of_le_length (by simp;omega)];exact ((hx.drop i).take _).one) (fun _=>a1O oM) (fun h=>⟨g,i * 2,a1O oM,fun w mm j u hu=>b2A (o:=i) m0 (hU.append hR) w mm j u hu⟩) (by simp;omega) rfl ?_;refine go 7 ?_;refine o_v rfl (a0K he rfl rfl i rfl oM) ?_;refine go 2 ?_;have hU3:=(((hU.append hR).take (i+1)).append ((((hU.append hR).drop i).take (l.length-i)).append ((hU.append hR).drop (i+1+(((xss++rest).drop i).take (l.length-i)).length))));refine a7y [c] i he rfl rfl (by simp;omega) hU3 hV1 (by simpa using Enc.one hc) (fun _=>a1O oM) (fun _=>⟨b,0,rfl,fun w mm j u hu=>(hcI j u (by simpa using hu)).at_ mm.con⟩) (by simp;omega) rfl ?_;refine go 11 ?_;refine a4C (b3j hlen hi hr1) ?_;refine a2q (m:=l.length+1) (cap:=cap) ((hU.take i).append (fun d hd=>by rcases List.mem_cons.1 hd with rfl|hd;exact Enc.len hc;exact hU.drop i d hd)) (hR.drop 1) (by simp<;>omega) (by simp<;>omega) hmax ?_;exact q_x (by exact⟨_,by congr 1<;>omega,(hx.take i).append (.cons hc (hx.drop i))⟩)
theorem b4Z (I:IMap) (v:Value) (l:List Part) (xss:List (List Value)) (i b yc:Nat) (hx:FlatC I xss l) (hl:l.length≤1000000) (hi:i≤l.length) (x:Part) (c c2:List Value) (hb:I b=some (.cells (c++c2).toArray 54 (0,0))) (hc:Enc.rd I c x) (hyc:1≤yc) (hyc2:yc≤9223372036854775807) :
  FnX prog 171 #[v,.int .i64 (i:Nat),.slice (some ⟨b,0,none⟩) 1 yc] I [.row v 54 14 l.length xss.flatten] (fun u r=>∃zss,r = .row u 54 14 (l.length+1) zss.flatten∧FlatC I zss (l.take i++x::l.drop i)):=
 FnX.of_row (args:=fun v=>[v,.int .i64 (i:Nat),.slice (some ⟨b,0,none⟩) 1 yc]) hx.uk hx.len (fun h0=>by
  obtain rfl:=List.eq_nil_of_length_eq_zero h0;obtain rfl:i=0:=by simp at hi;omega
  have hcI:ICells I b 0 c:=(fun j u hu=>⟨_,_,_,hb,by rw[Nat.zero_add];simpa using (List.getElem?_append_left (List.getElem?_eq_some_iff.1 hu).1).trans hu⟩)
  exact b0F I _ x ⟨_,yc,rfl,fun _=>⟨b,0,rfl,fun q z hq=>by cases q with|zero=>(cases hq;exact⟨c,by simpa using hcI,hc⟩)|succ q=>simp at hq⟩,hyc,hyc2⟩)
  (fun g cap rest h1 h2 h3=>b0E I l xss rest g cap i b yc hx h1 h2 h3 hl hi x c c2 hb hc hyc hyc2)
theorem c5g (I:IMap) (v:Value) (l:List Part) (hv:RdS I v l) (hl:l.length≤1000000) (x:Part) (B:Option Addr) (d:Nat) (hr:Enc.rd I (x.cells (.slice B x.props.length d)) x) (f:FuncId) (nm:Part→ByteArray) (hp:∀J,ILe I J→∀y vs,Enc.rd J vs y→FnV prog f #[.agg vs.toArray] J (.string (nm y))) (hs:Srt nm l) :
    FnI prog 117 #[v,.agg (x.cells (.slice B x.props.length d)).toArray,.func (.func f) #[] #[]] I (fun u J=>RdS J u (a4M nm l x)):=by
 refine enter func117 call117 rfl ntmps117 rfl fun w0=>?_;refine go 4 fun g4=>?_
 refine go 2 fun g5=>?_
 refine go 9 ?_;refine cV (hp _ (ILe.refl _) x _ hr) ?_;refine a1Z fun Ig5 jg5 cg5=>?_;have hv:=hv.le jg5;have hr:=Enc.mono jg5 hr;refine go 2 ?_;refine cV (b2P Ig5 v l hv hl (nm x) _ [.pointer (some ⟨g5,0,none⟩)] nm (fun y vs hr=>c2g _ y vs hr (nm x) f nm (hp _ jg5 y vs hr) g5 cg5) hs) ?_;refine go 11 ?_;refine a3f (b0L _ v l hv hl) rfl rfl fun v20 s20 q20=>?_;obtain⟨xss,rfl,hx⟩:=q20;refine gC 9 (fun h21 p21=>?_) fun h21 p21=>?_
 ·have hlt:=c6y h21;refine a7L hx.uk hx.len (fun h0 _=>absurd hlt oM) fun g20 cap20 rest20 e20 hr20 hc20 hm20=>?_;subst e20;refine go 5 ?_;refine o_v rfl (a0i he rfl rfl rfl (a6t nm l (nm x)) oM hlt) ?_;refine go 1 ?_;refine a1Q _ (a6t nm l (nm x)) (hx.uk.append hr20) he rfl rfl rfl rfl (Enc.one hr) (Nat.zero_add _) (by rw[List.length_append,hx.len];omega) ?_;refine a4C (List.set_append_left _ _ (by rw[hx.len];exact hlt)) ?_;refine a2q (m:=l.length) (cap:=cap20) (hx.uk.set rfl _) hr20 (by simp[hx.len]) hc20 hm20 ?_;refine go 11 ?_;refine a0d (l:=l.set (a6t nm l (nm x)) x) rfl (by simp) ((hx.set hr _).flat) fun I9 j9 R9=>?_;exact q_i (by simp only[a4M,h21,if_true];exact R9)
 ·refine go 9 fun v30=>?_
  refine a7L (xss:=[x.cells (.slice B x.props.length d)]) (fun d hd=>by rw[List.mem_singleton.1 hd];rfl) rfl (fun h=>absurd h (by decide)) fun b30 cap30 rest30 e30 hr30 hc30 hm30=>?_;subst e30;refine c2I fun I30 j30 B30=>?_;have hx:=hx.le j30;have hv:=hv.le j30;have hr:=Enc.mono j30 hr;refine go 1 ?_;refine a1m (b4Z _ _ l xss (a6t nm l (nm x)) b30 cap30 hx hl (b7a _ _ _) x _ rest30.flatten B30 hr oM (by unfold maxLen at hm30;omega)) rfl rfl fun v31 s31 q31=>?_;obtain⟨zss,rfl,hz⟩:=q31;refine go 5 ?_;refine a0d (l:=l.take (a6t nm l (nm x))++x::l.drop (a6t nm l (nm x))) rfl (by have:=b7a nm l (nm x);simp;omega) hz.flat fun I9 j9 R9=>?_;exact q_i (by simp only[a4M,h21];exact R9)
theorem b8t (I:IMap) (v:Value) (l:List Prp) (xss:List (List Value)) (i b yc:Nat) (hx:FlatC I xss l) (hl:l.length≤1000000) (hi:i≤l.length) (x:Prp) (c c2:List Value) (hb:I b=some (.cells (c++c2).toArray 184 (0,0))) (hc:Enc.rd I c x) (hyc:1≤yc) (hyc2:yc≤9223372036854775807) :
  FnX prog 179 #[v,.int .i64 (i:Nat),.slice (some ⟨b,0,none⟩) 1 yc] I [.row v 184 2 l.length xss.flatten] (fun u r=>∃zss,r = .row u 184 2 (l.length+1) zss.flatten∧FlatC I zss (l.take i++x::l.drop i)):=
 FnX.of_row (args:=fun v=>[v,.int .i64 (i:Nat),.slice (some ⟨b,0,none⟩) 1 yc]) hx.uk hx.len (fun h0=>by
  obtain rfl:=List.eq_nil_of_length_eq_zero h0;obtain rfl:i=0:=by simp at hi;omega
  have hcI:ICells I b 0 c:=(fun j u hu=>⟨_,_,_,hb,by rw[Nat.zero_add];simpa using (List.getElem?_append_left (List.getElem?_eq_some_iff.1 hu).1).trans hu⟩)
  exact b1Y I _ x ⟨_,yc,rfl,fun _=>⟨b,0,rfl,fun q z hq=>by cases q with|zero=>(cases hq;exact⟨c,by simpa using hcI,hc⟩)|succ q=>simp at hq⟩,hyc,hyc2⟩)
  (fun g cap rest h1 h2 h3=>b1X I l xss rest g cap i b yc hx h1 h2 h3 hl hi x c c2 hb hc hyc hyc2)
theorem c9c (I:IMap) (v:Value) (l:List Prp) (hv:RdS I v l) (hl:l.length≤1000000) (x:Prp)  (hr:Enc.rd I (x.cells) x) (f:FuncId) (nm:Prp→ByteArray) (hp:∀J,ILe I J→∀y vs,Enc.rd J vs y→FnV prog f #[.agg vs.toArray] J (.string (nm y))) (hs:Srt nm l) :
    FnI prog 126 #[v,.agg (x.cells).toArray,.func (.func f) #[] #[]] I (fun u J=>RdS J u (a4M nm l x)):=by
 refine enter func126 call126 rfl ntmps126 rfl fun w0=>?_;refine go 4 fun g4=>?_
 refine go 2 fun g5=>?_
 refine go 9 ?_;refine cV (hp _ (ILe.refl _) x _ hr) ?_;refine a1Z fun Ig5 jg5 cg5=>?_;have hv:=hv.le jg5;have hr:=Enc.mono jg5 hr;refine go 2 ?_;refine cV (b4x Ig5 v l hv hl (nm x) _ [.pointer (some ⟨g5,0,none⟩)] nm (fun y vs hr=>c5f _ y vs hr (nm x) f nm (hp _ jg5 y vs hr) g5 cg5) hs) ?_;refine go 11 ?_;refine a3f (b9S _ v l hv hl) rfl rfl fun v20 s20 q20=>?_;obtain⟨xss,rfl,hx⟩:=q20;refine gC 9 (fun h21 p21=>?_) fun h21 p21=>?_
 ·have hlt:=c6y h21;refine a7L hx.uk hx.len (fun h0 _=>absurd hlt oM) fun g20 cap20 rest20 e20 hr20 hc20 hm20=>?_;subst e20;refine go 5 ?_;refine o_v rfl (a0i he rfl rfl rfl (a6t nm l (nm x)) oM hlt) ?_;refine go 1 ?_;refine a1Q _ (a6t nm l (nm x)) (hx.uk.append hr20) he rfl rfl rfl rfl (Enc.one hr) (Nat.zero_add _) (by rw[List.length_append,hx.len];omega) ?_;refine a4C (List.set_append_left _ _ (by rw[hx.len];exact hlt)) ?_;refine a2q (m:=l.length) (cap:=cap20) (hx.uk.set rfl _) hr20 (by simp[hx.len]) hc20 hm20 ?_;refine go 11 ?_;refine a0d (l:=l.set (a6t nm l (nm x)) x) rfl (by simp) ((hx.set hr _).flat) fun I9 j9 R9=>?_;exact q_i (by simp only[a4M,h21,if_true];exact R9)
 ·refine go 9 fun v30=>?_
  refine a7L (xss:=[x.cells]) (fun d hd=>by rw[List.mem_singleton.1 hd];rfl) rfl (fun h=>absurd h (by decide)) fun b30 cap30 rest30 e30 hr30 hc30 hm30=>?_;subst e30;refine c2I fun I30 j30 B30=>?_;have hx:=hx.le j30;have hv:=hv.le j30;have hr:=Enc.mono j30 hr;refine go 1 ?_;refine a1m (b8t _ _ l xss (a6t nm l (nm x)) b30 cap30 hx hl (b7a _ _ _) x _ rest30.flatten B30 hr oM (by unfold maxLen at hm30;omega)) rfl rfl fun v31 s31 q31=>?_;obtain⟨zss,rfl,hz⟩:=q31;refine go 5 ?_;refine a0d (l:=l.take (a6t nm l (nm x))++x::l.drop (a6t nm l (nm x))) rfl (by have:=b7a nm l (nm x);simp;omega) hz.flat fun I9 j9 R9=>?_;exact q_i (by simp only[a4M,h21];exact R9)
end Go.Proofs.YtkndpfncklhhlaaGreat
namespace Go.Proofs.YtkndpfncklhhlaaGreat
open Go Go.Sx Tryz
set_option linter.all false
set_option maxRecDepth 20000
set_option maxHeartbeats 4000000
instance:Has (plK prog 184) [(0,1),(1,1)]:=hk
instance:Has (plK prog 36) [(0,2),(2,2),(4,2)]:=hk
instance:Has (plK prog 97) [(0,1)]:=hk
instance:Has (tyK prog 36) (true,6):=hk
instance:Has (a2r prog 36) [.int .i64 0,.int .i64 0,.int .i64 0,.int .i64 0,.int .i64 0,.int .i64 0]:=hk
instance:Has (a2r prog 97) [.slice none 0 0]:=hk
theorem c6w (I:IMap) (v:Value) (l:List Part) (hv:RdS I v l) (hl:l.length≤1000000) (x:Part) (B:Option Addr) (d:Nat) (hr:Enc.rd I (x.cells (.slice B x.props.length d)) x) (g4:Nat) (c4:ICells I g4 0 [v]) (hs:Srt Part.name l) :
    FnI prog 116 #[.agg (x.cells (.slice B x.props.length d)).toArray,.pointer (some ⟨g4,0,none⟩)] I (fun u J=>∃w,u = .tuple #[.agg #[w],.int .i64 0]∧RdS J w (a4M Part.name l x)):=by
 refine enter func116 call116 rfl ntmps116 rfl fun w0=>?_;refine go 4 fun g2=>?_
 refine go 2 fun g3=>?_
 refine go 9 ?_;refine a0D (c5g _ v l hv hl x B d hr _ Part.name (fun J hJ y vs hr=>c7s J y vs hr) hs) rfl rfl fun v8 I8 j8 q8=>?_;obtain⟨B8,d8,rfl,h8⟩:=q8;refine go 8 ?_;exact q_i ⟨_,rfl,B8,d8,rfl,h8⟩
theorem a4f (I:IMap) (n:Int) :
    FnV prog 119 #[.int .i64 n] I (.tuple #[.agg #[.slice none 0 0],.int .i64 n]):=by
 refine enter func119 call119 rfl ntmps119 rfl fun w0=>?_;refine go 4 fun g2=>?_
 refine go 14 ?_;exact q_v rfl
theorem c6x (I:IMap) (v:Value) (l:List Part) (hv:RdS I v l) (g4:Nat) (c4:ICells I g4 0 [v]) (f:FuncId) (cs:List Value) (p:Part→Bool) (hp:∀x∈l,∀vs,Enc.rd I vs x→FnV prog f ([Value.agg vs.toArray]++cs).toArray I (.bool (p x))) :
    FnV prog 122 #[.func (.func f) #[] cs.toArray,.pointer (some ⟨g4,0,none⟩)] I (.bool (l.any p)):=by
 refine enter func122 call122 rfl ntmps122 rfl fun w0=>?_;refine go 11 ?_;refine cV (a7T _ v l hv f cs p hp) ?_;refine go 5 ?_;exact q_v rfl
theorem d0D (I:IMap) (x:Part) (vs:List Value) (h:Enc.rd I vs x) (g:Nat) (e:Evt) (cg:ICells I g 0 e.cells) :
    FnV prog 125 #[.agg vs.toArray,.pointer (some ⟨g,0,none⟩)] I (.bool (decide (x.into=e.into)&&decide (x.slot=e.slot))):=by
 obtain⟨ps,rfl,hps⟩:=h;refine enter func125 call125 rfl ntmps125 rfl fun w0=>?_;refine go 4 fun g2=>?_
 refine go 8 ?_;refine o_v rfl (a1X he rfl (cg 4 _ rfl)) ?_;refine gS 2 9 (fun h9 p9=>?_) fun h9 p9=>?_
 ·refine go 3 ?_;refine a0P (a0z rfl rfl h9 (a0k rfl (a1X he rfl (cg 5 _ rfl)) ?_));refine go 7 ?_;exact q_v (congrArg Value.bool (by simp only[h9,bS]))
 ·refine go 11 ?_;exact q_v (congrArg Value.bool (by simp only[h9,bS]))
theorem d0F (I:IMap) (x:Part) (vs:List Value) (h:Enc.rd I vs x) (g:Nat) (q:Part) (s:Value) (cg:ICells I g 0 (q.cells s)) :
    FnV prog 128 #[.agg vs.toArray,.pointer (some ⟨g,0,none⟩)] I (.bool (decide (x.into=q.name))):=by
 obtain⟨ps,rfl,hps⟩:=h;refine enter func128 call128 rfl ntmps128 rfl fun w0=>?_;refine go 4 fun g2=>?_
 refine go 8 ?_;refine o_v rfl (a1X he rfl (cg 0 _ rfl)) ?_;refine go 6 ?_;exact q_v rfl
theorem c0z (I:IMap) (vc:Value) (c:List Kind) (hvc:RdS I vc c) (hsc:SmC c) (v:Value) (l:List Part) (hv:RdS I v l) (hsf:SmF l) (e:Evt) (hse:SmE e) :
    FnI prog 79 #[.agg #[vc],.agg #[v],.agg e.cells.toArray] I (fun u J=>StIs J (a0f c l e) u):=by
 have hv0:=hv;obtain⟨A,c0,rfl,hA,hc,hm⟩:=hv;refine enter func79 call79 rfl ntmps79 rfl fun w0=>?_;refine go 4 fun g3=>?_
 refine go 2 fun g4=>?_
 refine go 2 fun g5=>?_
 refine go 2 fun g6=>?_
 refine go 5 ?_;refine a1h (I':=I) (L':=[(3,.pointer (some ⟨g3,0,none⟩)),(4,.pointer (some ⟨g4,0,none⟩)),(5,.pointer (some ⟨g5,0,none⟩)),(6,.pointer (some ⟨g6,0,none⟩)),(28,.bool (!a2Z c l || !a1t e))]) (H':=[.blk g6 97 [.slice none 0 0],.blk g5 72 e.cells,.blk g4 97 [.slice A l.length c0],.blk g3 24 [vc]]) ?_ ?_
 ·refine go 4 ?_;refine cV (c8h _ vc c hvc hsc _ l hv0 hsf) ?_;refine gS 2 24 (fun h24 p24=>?_) fun h24 p24=>?_
  ·refine go 6 ?_;exact a0h ⟨rfl,rfl,rfl,rfl,(bB (by simp only[h24,bS])),trivial⟩ rfl rfl
  ·refine go 2 ?_;refine a0z rfl rfl h24 (a0x (b4J _ e hse) rfl rfl ?_);refine go 4 ?_;exact a0h ⟨rfl,rfl,rfl,rfl,(bB (by simp only[h24,bS])),trivial⟩ rfl rfl
 ·refine gC 0 (fun h28 p28=>?_) fun h28 p28=>?_
  ·refine go 11 ?_;exact q_i (StIs.fail (by simp only[a0f,h28,if_true]))
  ·have hV:a2Z c l=true∧a1t e=true:=by revert h28;simp
   obtain⟨hsrt,hlen⟩:=a8h hV.1;have hl6:l.length≤1000000:=oM;refine go 6 ?_;refine a3f (d3K _ _ l hv0) rfl rfl fun v31 s31 q31=>?_;obtain⟨m31,kvs,rfl,rfl,hIx,_⟩:=q31;refine go 2 fun g8=>?_
   refine go 6 ?_;refine a0A ?_;refine a1Z fun Ig4 jg4 cg4=>?_;have hvc:=hvc.le jg4;have hv0:=hv0.le jg4;refine go 15 ?_;refine a0b ?_;refine a9R (c8f _ _ l hv0 m31 kvs hIx e.part) rfl rfl fun v37 q37=>?_;obtain⟨vs11,rfl,s11,rfl,hs11⟩:=q37;refine go 5 fun g11=>?_
   refine go 1 ?_;refine a1A _ he rfl rfl rfl rfl rfl (Enc.one (α:=Part) (I:=Ig4) (x:=a1V l e) ⟨s11,rfl,hs11⟩) ?_;refine gC 11 (fun h42 p42=>?_) fun h42 p42=>?_
   ·refine gC 6 (fun h43 p43=>?_) fun h43 p43=>?_
    ·refine go 4 ?_;refine cV (a4f _ 3) ?_;refine go 3 ?_;refine a0p ?_;refine go 8 ?_;exact q_i (StIs.fail (by simp only[a0f,h28,p42,a2s,h43,Bool.true_eq_false,decide_true,decide_false,Int.reduceEq,reduceIte,if_true,if_false,Bool.false_eq_true,not_true,not_false_eq_true,bS]))
    ·refine go 9 ?_;refine a2p (b1L _ vc c hvc e.kind) rfl rfl fun v52 q52=>?_;obtain⟨vs13,rfl,s13,rfl,hs13⟩:=q52;refine go 5 fun g13=>?_
     refine go 1 ?_;refine a1A _ he rfl rfl rfl rfl rfl (Enc.one (α:=Kind) (I:=Ig4) (x:=(a2D c e.kind).getD a4Y) ⟨s13,rfl,hs13⟩) ?_;refine gC 9 (fun h56 p56=>?_) fun h56 p56=>?_
     ·refine go 4 ?_;refine cV (a4f _ 4) ?_;refine go 3 ?_;refine a0A ?_;refine go 8 ?_;exact q_i (StIs.fail (by simp only[a0f,h28,p42,a2s,h43,p56,Bool.true_eq_false,decide_true,decide_false,Int.reduceEq,reduceIte,if_true,if_false,Bool.false_eq_true,not_true,not_false_eq_true,bS]))
     ·refine go 6 ?_;refine o_v rfl (a1X he rfl (cg4 0 _ rfl)) ?_;refine gC 4 (fun h64 p64=>?_) fun h64 p64=>?_
      ·refine go 4 ?_;refine cV (a4f _ 7) ?_;refine go 3 ?_;refine a0A ?_;refine go 8 ?_;exact q_i (StIs.fail (by simp only[a0f,h28,p42,a2s,h43,p56,p64,Bool.true_eq_false,Bool.true_eq_false,decide_true,decide_false,Int.reduceEq,reduceIte,if_true,if_false,Bool.false_eq_true,not_true,not_false_eq_true,bS]))
      ·refine go 15 ?_;refine a0D (c6w _ _ l hv0 hl6 (c4N e) none 0 ⟨_,rfl,RdS.nil'⟩ g4 cg4 hsrt) rfl rfl fun v79 I79 j79 q79=>?_;obtain⟨w79,rfl,⟨B79,d79,rfl,hw79⟩⟩:=q79;refine go 3 ?_;refine a0A ?_;refine go 7 ?_;exact q_i (StIs.put (by simp only[a0f,h28,p42,a2s,h43,p56,p64,Bool.true_eq_false,Bool.true_eq_false,decide_true,decide_false,Int.reduceEq,reduceIte,if_true,if_false,Bool.false_eq_true,not_true,not_false_eq_true,bS]) ⟨B79,d79,rfl,hw79⟩)
   ·refine go 8 fun g15=>?_
    refine go 1 ?_;refine a1A _ he rfl rfl rfl rfl rfl (Enc.one (α:=Part) (I:=Ig4) (x:=a1V l e) ⟨s11,rfl,hs11⟩) ?_;refine go 4 ?_;refine a3O (α:=Value) (Ix:=(fun s15=>Ig4)) (Lx:=(fun s15=>[(3,.pointer (some ⟨g3,0,none⟩)),(4,.pointer (some ⟨g4,0,none⟩)),(5,.pointer (some ⟨g5,0,none⟩)),(6,.pointer (some ⟨g6,0,none⟩)),(9,.func (.func 116) #[] #[.pointer (some ⟨g4,0,none⟩)]),(10,.func (.func 119) #[] #[]),(11,.pointer (some ⟨g11,0,none⟩)),(12,.bool (a0C l e.part).isSome),(15,.pointer (some ⟨g15,0,none⟩)),(16,.bool (a5g l e).isSome)])) (Hx:=(fun s15=>[.blk g15 54 ((a5h l e).cells s15),.blk g11 54 ((a1V l e).cells s11),.blk g6 97 [.slice none 0 0],.blk g5 72 e.cells,.blk g3 24 [vc]])) (p:=(fun s15=>RdS Ig4 s15 (a5h l e).props)) ?_ ?_
    ·refine gC 7 (fun h86 p86=>?_) fun h86 p86=>?_
     ·refine go 5 ?_;refine a0c ?_;refine a9R (c8f _ _ l hv0 m31 kvs hIx e.into) rfl rfl fun v91 q91=>?_;obtain⟨vs15,rfl,s15,rfl,hs15⟩:=q91;refine go 4 ?_;refine a0b ?_;refine a1A _ he rfl rfl rfl rfl rfl (Enc.one (α:=Part) (I:=Ig4) (x:=(a0C l e.into).getD zPart) ⟨s15,rfl,hs15⟩) ?_;refine go 3 ?_;refine a0b ?_;refine a0a ?_;refine a0c ?_;refine a0a ?_;exact a1s s15 (by simp only[a5h,a5g,p86,if_true];exact hs15) ⟨rfl,rfl,rfl,rfl,rfl,rfl,rfl,rfl,rfl,(by simp only[a5g,p86,if_true,if_false];rfl),trivial⟩ (by simp only[a5h,a5g,p86,if_true,if_false];rfl) rfl
     ·refine go 2 ?_;refine a0c ?_;refine a0a ?_;refine a0c ?_;refine a0a ?_;exact a1s s11 (by simp only[a5h,a5g,p86,if_false];exact hs11) ⟨rfl,rfl,rfl,rfl,rfl,rfl,rfl,rfl,rfl,(by simp only[a5g,p86,if_true,if_false];rfl),trivial⟩ (by simp only[a5h,a5g,p86,if_true,if_false];rfl) rfl
    ·intro s15 hs15;refine gS 6 96 (fun h96 p96=>?_) fun h96 p96=>?_
     ·refine go 10 ?_;refine cV (a4f _ 2) ?_;refine go 3 ?_;refine a0c ?_;refine go 7 ?_;exact q_i (StIs.fail (by simp only[a0f,h28,p42,a0q,h96,Bool.true_eq_false,decide_true,decide_false,Int.reduceEq,reduceIte,if_true,if_false,Bool.false_eq_true,not_true,not_false_eq_true,bS]))
     ·refine gC 5 (fun h99 p99=>?_) fun h99 p99=>?_
      ·refine go 4 ?_;refine cV (a4f _ 2) ?_;refine go 3 ?_;refine a0c ?_;refine go 7 ?_;exact q_i (StIs.fail (by simp only[a0f,h28,p42,a0q,h96,h99,Bool.true_eq_false,decide_true,decide_false,Int.reduceEq,reduceIte,if_true,if_false,Bool.false_eq_true,not_true,not_false_eq_true,bS]))
      ·have hmem:a1V l e∈l:=a9X (by simpa using h96);refine gS 8 106 (fun h106 p106=>?_) fun h106 p106=>?_
       ·refine go 10 ?_;refine cV (a4f _ 5) ?_;refine go 3 ?_;refine a0c ?_;refine go 7 ?_;exact q_i (StIs.fail (by simp only[a0f,h28,p42,a0q,h96,h99,h106,Bool.true_eq_false,decide_true,decide_false,Int.reduceEq,reduceIte,if_true,if_false,Bool.false_eq_true,not_true,not_false_eq_true,bS]))
       ·refine gC 5 (fun h109 p109=>?_) fun h109 p109=>?_
        ·refine go 4 ?_;refine cV (a4f _ 5) ?_;refine go 3 ?_;refine a0c ?_;refine go 7 ?_;exact q_i (StIs.fail (by simp only[a0f,h28,p42,a0q,h96,h99,h106,h109,Bool.true_eq_false,decide_true,decide_false,Int.reduceEq,reduceIte,if_true,if_false,Bool.false_eq_true,not_true,not_false_eq_true,bS]))
        ·refine go 14 ?_;refine a2p (b1L _ vc c hvc (a1V l e).kind) rfl rfl fun v119 q119=>?_;obtain⟨vs18,rfl,s18,rfl,hs18⟩:=q119;refine go 5 fun g18=>?_
         refine go 1 ?_;refine a1A _ he rfl rfl rfl rfl rfl (Enc.one (α:=Kind) (I:=Ig4) (x:=a2F c l e) ⟨s18,rfl,hs18⟩) ?_;refine go 4 ?_;refine b4y (Ix:=(fun J p2 s2=>J)) (Lx:=(fun J p2 s2=>[(6,.pointer (some ⟨g6,0,none⟩)),(9,.func (.func 116) #[] #[.pointer (some ⟨g4,0,none⟩)]),(11,.pointer (some ⟨g11,0,none⟩))])) (Hx:=(fun J p2 s2=>[.blk g11 54 (p2.cells s2),.blk g6 97 [.slice none 0 0]])) (p:=(fun J p2 s2=>ILe Ig4 J∧RdS J s2 p2.props∧a0f c l e=b7d l p2)) ?_ ?_
         ·refine gC 13 (fun h124 p124=>?_) fun h124 p124=>?_
          ·refine gS 7 129 (fun h129 p129=>?_) fun h129 p129=>?_
           ·refine go 18 ?_;refine cV (a4f _ 4) ?_;refine go 3 ?_;refine a0p ?_;refine go 10 ?_;exact q_i (StIs.fail (by simp only[a0f,h28,p42,a0q,a0X,a0L,a0m,a0H,a0B,a0r,a0S,a1f,a2F,a2o,p28,p42,p96,p99,p106,p109,p124,p129,h96,h99,h106,h109,h124,h129,Bool.true_eq_false,decide_true,decide_false,Int.reduceEq,reduceIte,if_true,if_false,Bool.false_eq_true,not_true,not_false_eq_true,bS]))
           ·refine go 8 ?_;refine a0z rfl rfl h129 (a0x (b5Z _ vc c hvc (a5h l e).kind e.slot (a1V l e).kind) rfl rfl ?_);refine gC 5 (fun h126 p126=>?_) fun h126 p126=>?_
            ·refine go 4 ?_;refine cV (a4f _ 4) ?_;refine go 3 ?_;refine a0p ?_;refine go 10 ?_;exact q_i (StIs.fail (by simp only[a0f,h28,p42,a0q,a0X,a0L,a0m,a0H,a0B,a0r,a0S,a1f,a2F,a2o,p28,p42,p96,p99,p106,p109,p124,p129,p126,h96,h99,h106,h109,h124,h129,h126,Bool.true_eq_false,decide_true,decide_false,Int.reduceEq,reduceIte,if_true,if_false,Bool.false_eq_true,not_true,not_false_eq_true,bS]))
            ·refine gC 8 (fun h144 p144=>?_) fun h144 p144=>?_
             ·refine go 4 ?_;refine cV (a4f _ 5) ?_;refine go 3 ?_;refine a0p ?_;refine go 10 ?_;exact q_i (StIs.fail (by simp only[a0f,h28,p42,a0q,a0X,a0L,a0m,a0H,a0B,a0r,a0S,a1f,a2F,a2o,p28,p42,p96,p99,p106,p109,p124,p129,p126,p144,h96,h99,h106,h109,h124,h129,h126,h144,Bool.true_eq_false,decide_true,decide_false,Int.reduceEq,reduceIte,if_true,if_false,Bool.false_eq_true,not_true,not_false_eq_true,bS]))
             ·refine go 3 ?_;refine a0A ?_;refine a1Z fun Ig5 jg5 cg5=>?_;have hvc:=hvc.le jg5;have hv0:=hv0.le jg5;have cg4:=cg4.le jg5;have hs11:=hs11.le jg5;have hs18:=hs18.le jg5;refine go 2 ?_;refine cV (c6x _ _ l hv0 g4 cg4 _ [.pointer (some ⟨g5,0,none⟩)] (fun x=>decide (x.into=e.into)&&decide (x.slot=e.slot)) (fun x hx vs hr=>d0D _ x vs hr g5 e cg5)) ?_;refine gC 3 (fun h152 p152=>?_) fun h152 p152=>?_
              ·refine go 4 ?_;refine cV (a4f _ 6) ?_;refine go 3 ?_;refine a0p ?_;refine go 10 ?_;exact q_i (StIs.fail (by simp only[a0f,h28,p42,a0q,a0X,a0L,a0m,a0H,a0B,a0r,a0S,a1f,a2F,a2o,p28,p42,p96,p99,p106,p109,p124,p129,p126,p144,p152,h96,h99,h106,h109,h124,h129,h126,h144,h152,Bool.true_eq_false,decide_true,decide_false,Int.reduceEq,reduceIte,if_true,if_false,Bool.false_eq_true,not_true,not_false_eq_true,bS]))
              ·refine go 3 ?_;refine a0c ?_;refine ds1 ?_;refine dG 0 1 ?_;refine a0F 1 rfl rfl (by kernel_rfl) rfl (.cons _ (.refl _)) rfl (a1X he rfl (cg5 4 _ rfl)) ?_;refine dG 2 1 ?_;refine a0F 3 rfl rfl (by kernel_rfl) rfl (.cons _ (.refl _)) rfl (a1X he rfl (cg5 5 _ rfl)) ?_;refine dH 4 1 ?_;refine go 1 ?_;refine dH 6 1 ?_;refine go 5 ?_;refine a0b ?_;refine a0a ?_;refine a0b ?_;refine a0a ?_;refine a0c ?_;refine a0a ?_;exact a2S (_) ({ a1V l e with into:=e.into,slot:=e.slot }) (_) ⟨jg5,hs11,by simp only[a0f,h28,p42,a0q,h96,h99,h106,h109,a0X,a0L,a0m,a0H,a0B,a0r,a0S,a1f,a2F,a2o,a1g,p28,p42,p96,p99,p106,p109,p124,p129,p126,p144,p152,h96,h99,h106,h109,h124,h129,h126,h144,h152,Bool.true_eq_false,decide_true,decide_false,Int.reduceEq,reduceIte,if_true,if_false,Bool.false_eq_true,not_true,not_false_eq_true,bS]⟩ sb rfl rfl
          ·refine gC 6 (fun h166 p166=>?_) fun h166 p166=>?_
           ·refine gC 8 (fun h170 p170=>?_) fun h170 p170=>?_
            ·refine go 4 ?_;refine cV (a4f _ 5) ?_;refine go 3 ?_;refine a0p ?_;refine go 9 ?_;exact q_i (StIs.fail (by simp only[a0f,h28,p42,a0q,a0X,a0L,a0m,a0H,a0B,a0r,a0S,a1f,a2F,a2o,p28,p42,p96,p99,p106,p109,p124,p166,p170,h96,h99,h106,h109,h124,h166,h170,Bool.true_eq_false,decide_true,decide_false,Int.reduceEq,reduceIte,if_true,if_false,Bool.false_eq_true,not_true,not_false_eq_true,bS]))
            ·refine go 5 ?_;refine a0c ?_;refine go 7 ?_;refine a0b ?_;refine a0a ?_;refine a0b ?_;refine a0a ?_;refine a0c ?_;refine a0a ?_;refine a0c ?_;refine a0a ?_;exact a2S (_) ({ a1V l e with into:=a1b,slot:=a1b }) (_) ⟨ILe.refl _,hs11,by simp only[a0f,h28,p42,a0q,h96,h99,h106,h109,a0X,a0L,a0m,a0H,a0B,a0r,a0S,a1f,a2F,a2o,a1g,p28,p42,p96,p99,p106,p109,p124,p166,p170,h96,h99,h106,h109,h124,h166,h170,Bool.true_eq_false,decide_true,decide_false,Int.reduceEq,reduceIte,if_true,if_false,Bool.false_eq_true,not_true,not_false_eq_true,bS]⟩ sb rfl rfl
           ·refine gC 6 (fun h177 p177=>?_) fun h177 p177=>?_
            ·refine gC 7 (fun h181 p181=>?_) fun h181 p181=>?_
             ·refine go 4 ?_;refine cV (a4f _ 4) ?_;refine go 3 ?_;refine a0p ?_;refine go 8 ?_;exact q_i (StIs.fail (by simp only[a0f,h28,p42,a0q,a0X,a0L,a0m,a0H,a0B,a0r,a0S,a1f,a2F,a2o,p28,p42,p96,p99,p106,p109,p124,p166,p177,p181,h96,h99,h106,h109,h124,h166,h177,h181,Bool.true_eq_false,decide_true,decide_false,Int.reduceEq,reduceIte,if_true,if_false,Bool.false_eq_true,not_true,not_false_eq_true,bS]))
             ·refine go 3 ?_;refine a0a ?_;refine a0a ?_;refine a0c ?_;refine a0a ?_;refine a0c ?_;refine a0a ?_;exact a2S (_) (a1V l e) (_) ⟨ILe.refl _,hs11,by simp only[a0f,h28,p42,a0q,h96,h99,h106,h109,a0X,a0L,a0m,a0H,a0B,a0r,a0S,a1f,a2F,a2o,a1g,p28,p42,p96,p99,p106,p109,p124,p166,p177,p181,h96,h99,h106,h109,h124,h166,h177,h181,Bool.true_eq_false,decide_true,decide_false,Int.reduceEq,reduceIte,if_true,if_false,Bool.false_eq_true,not_true,not_false_eq_true,bS]⟩ sb rfl rfl
            ·refine gC 6 (fun h186 p186=>?_) fun h186 p186=>?_
             ·refine go 5 ?_;refine o_v rfl (a2a rfl rfl) ?_;refine go 3 ?_;refine a0c ?_;refine go 7 ?_;refine a0b ?_;refine a0a ?_;refine a0b ?_;refine a0a ?_;refine a0c ?_;refine a0a ?_;refine a0c ?_;refine a0a ?_;exact a2S (_) (a1g e (a1V l e)) (_) ⟨ILe.refl _,hs11,by simp only[a0f,h28,p42,a0q,h96,h99,h106,h109,a0X,a0L,a0m,a0H,a0B,a0r,a0S,a1f,a2F,a2o,a1g,p28,p42,p96,p99,p106,p109,p124,p166,p177,p186,h96,h99,h106,h109,h124,h166,h177,h186,Bool.true_eq_false,decide_true,decide_false,Int.reduceEq,reduceIte,if_true,if_false,Bool.false_eq_true,not_true,not_false_eq_true,bS]⟩ sb rfl rfl
             ·refine gC 6 (fun h196 p196=>?_) fun h196 p196=>?_
              ·refine go 10 ?_;refine a0D (c9c _ s11 (a1V l e).props hs11 (by have:=(a5G hV.1 hmem).2;omega) ⟨e.key,e.value⟩ rfl _ Prp.key (fun J hJ y vs hr=>d0E J y vs hr) (a5G hV.1 hmem).1) rfl rfl fun v205 I205 j205 q205=>?_;obtain⟨B205,d205,rfl,h205⟩:=q205;refine go 2 ?_;refine a0c ?_;refine gC 11 (fun h210 p210=>?_) fun h210 p210=>?_
               ·refine go 4 ?_;refine cV (a4f _ 7) ?_;refine go 3 ?_;refine a0p ?_;refine go 8 ?_;exact q_i (StIs.fail (by simp only[a0f,h28,p42,a0q,a0X,a0L,a0m,a0H,a0B,a0r,a0S,a1f,a2F,a2o,p28,p42,p96,p99,p106,p109,p124,p166,p177,p186,p196,p210,h96,h99,h106,h109,h124,h166,h177,h186,h196,h210,Bool.true_eq_false,decide_true,decide_false,Int.reduceEq,reduceIte,if_true,if_false,Bool.false_eq_true,not_true,not_false_eq_true,bS]))
               ·refine go 3 ?_;refine a0b ?_;refine a0a ?_;refine a0b ?_;refine a0a ?_;refine a0c ?_;refine a0a ?_;refine a0c ?_;refine a0a ?_;exact a2S (_) (a2o e (a1V l e)) (_) ⟨j205,⟨B205,d205,rfl,h205⟩,by simp only[a0f,h28,p42,a0q,h96,h99,h106,h109,a0X,a0L,a0m,a0H,a0B,a0r,a0S,a1f,a2F,a2o,a1g,p28,p42,p96,p99,p106,p109,p124,p166,p177,p186,p196,p210,h96,h99,h106,h109,h124,h166,h177,h186,h196,h210,Bool.true_eq_false,decide_true,decide_false,Int.reduceEq,reduceIte,if_true,if_false,Bool.false_eq_true,not_true,not_false_eq_true,bS]⟩ sb rfl rfl
              ·refine gC 6 (fun h215 p215=>?_) fun h215 p215=>?_
               ·refine gS 7 220 (fun h220 p220=>?_) fun h220 p220=>?_
                ·refine go 11 ?_;refine cV (a4f _ 5) ?_;refine go 3 ?_;refine a0p ?_;refine go 9 ?_;exact q_i (StIs.fail (by simp only[a0f,h28,p42,a0q,a0X,a0L,a0m,a0H,a0B,a0r,a0S,a1f,a2F,a2o,p28,p42,p96,p99,p106,p109,p124,p166,p177,p186,p196,p215,p220,h96,h99,h106,h109,h124,h166,h177,h186,h196,h215,h220,Bool.true_eq_false,decide_true,decide_false,Int.reduceEq,reduceIte,if_true,if_false,Bool.false_eq_true,not_true,not_false_eq_true,bS]))
                ·refine go 3 ?_;refine a0z rfl rfl h220 (c8L m2 (fun I2 hI2 c2=>c6x I2 _ l (hv0.le hI2) g4 (cg4.le hI2) _ [.pointer (some ⟨g11,0,none⟩)] (fun x=>decide (x.into=(a1V l e).name)) (fun x hx vs hr=>d0F I2 x vs hr g11 _ _ c2)) rfl rfl ?_);refine gC 3 (fun h224 p224=>?_) fun h224 p224=>?_
                 ·refine go 4 ?_;refine cV (a4f _ 5) ?_;refine go 3 ?_;refine a0p ?_;refine go 9 ?_;exact q_i (StIs.fail (by simp only[a0f,h28,p42,a0q,a0X,a0L,a0m,a0H,a0B,a0r,a0S,a1f,a2F,a2o,p28,p42,p96,p99,p106,p109,p124,p166,p177,p186,p196,p215,p220,p224,h96,h99,h106,h109,h124,h166,h177,h186,h196,h215,h220,h224,Bool.true_eq_false,decide_true,decide_false,Int.reduceEq,reduceIte,if_true,if_false,Bool.false_eq_true,not_true,not_false_eq_true,bS]))
                 ·refine go 5 ?_;refine a0c ?_;refine go 4 ?_;refine a0b ?_;refine a0a ?_;refine a0b ?_;refine a0a ?_;refine a0c ?_;refine a0a ?_;refine a0c ?_;refine a0a ?_;exact a2S (_) ({ a1V l e with scrapped:=true }) (_) ⟨ILe.refl _,hs11,by simp only[a0f,h28,p42,a0q,h96,h99,h106,h109,a0X,a0L,a0m,a0H,a0B,a0r,a0S,a1f,a2F,a2o,a1g,p28,p42,p96,p99,p106,p109,p124,p166,p177,p186,p196,p215,p220,p224,h96,h99,h106,h109,h124,h166,h177,h186,h196,h215,h220,h224,Bool.true_eq_false,decide_true,decide_false,Int.reduceEq,reduceIte,if_true,if_false,Bool.false_eq_true,not_true,not_false_eq_true,bS]⟩ sb rfl rfl
               ·refine go 3 ?_;refine a0a ?_;refine a0a ?_;refine a0c ?_;refine a0a ?_;refine a0c ?_;refine a0a ?_;exact a2S (_) (a1V l e) (_) ⟨ILe.refl _,hs11,by simp only[a0f,h28,p42,a0q,h96,h99,h106,h109,a0X,a0L,a0m,a0H,a0B,a0r,a0S,a1f,a2F,a2o,a1g,p28,p42,p96,p99,p106,p109,p124,p166,p177,p186,p196,p215,h96,h99,h106,h109,h124,h166,h177,h186,h196,h215,Bool.true_eq_false,decide_true,decide_false,Int.reduceEq,reduceIte,if_true,if_false,Bool.false_eq_true,not_true,not_false_eq_true,bS]⟩ sb rfl rfl
         ·rintro J p2 s2 ⟨hJ,⟨B2,d2,rfl,hB2⟩,hA⟩;refine go 5 ?_;refine a0D (c6w _ _ l (hv0.le hJ) hl6 p2 B2 d2 ⟨_,rfl,B2,d2,rfl,hB2⟩ g4 (cg4.le hJ) hsrt) rfl rfl fun v232 I232 j232 q232=>?_;obtain⟨w232,rfl,⟨B232,d232,rfl,hw232⟩⟩:=q232;refine go 3 ?_;refine a0b ?_;refine go 6 ?_;exact q_i (StIs.put hA ⟨B232,d232,rfl,hw232⟩)
end Go.Proofs.YtkndpfncklhhlaaGreat
namespace Go.Proofs.YtkndpfncklhhlaaGreat
open Go Go.Sx Tryz
set_option linter.all false
set_option maxRecDepth 20000
set_option maxHeartbeats 4000000
theorem b0k (I:IMap) (l:List Evt) (N:Nat) (hN:l.length=N) (g a b n:Nat) (f:FuncId) (h:a+n≤b) (hb:b+n≤l.length) (hl:l.length≤1000000) :
    FnM prog 262 #[.slice (some ⟨g,0,none⟩) N N,.int .i64 ((a:Nat):Int),.int .i64 ((b:Nat):Int),.int .i64 ((n:Nat):Int),.func (.func f) #[] #[]] I (.blk g 72 (a1C (l)).flatten) (.blk g 72 (a1C (a9e l a b n)).flatten):=by
 refine enter func262 call262 rfl ntmps262 rfl fun w0=>?_;refine go 6 ?_
 refine a0w (α:=Nat) 0 (fun i=>I)
  (fun i=>[(0,.slice (some ⟨g,0,none⟩) N N),(1,.int .i64 ((a:Nat):Int)),(2,.int .i64 ((b:Nat):Int)),(3,.int .i64 ((n:Nat):Int)),(10,.int .i64 ((i:Nat):Int))])
  (fun i=>[.blk g 72 (a1C (a9e l a b i)).flatten])
  (fun i=>i≤n)
  (fun i=>n-i) (Nat.zero_le _) rfl sb rfl ?_
 intro i hi;refine gC 8 (fun h13 p13=>?_) fun h13 p13=>?_
 ·have hlt:i<n:=oM;have hm:=a3N l a b i;have h1:a+i<(a9e l a b i).length:=oM;have h2:b+i<(a9e l a b i).length:=oM;refine go 4 ?_;refine ds1 ?_;refine dG 0 12 ?_;refine a0F 12 rfl rfl (by kernel_rfl) rfl (.cons _ .slnil) rfl (a0i he rfl rfl rfl (b+i) oM oM) ?_;refine dG 14 4 ?_;refine a0F 18 rfl rfl (by kernel_rfl) rfl (.cons _ .slnil) rfl (a0i he rfl rfl rfl (a+i) oM oM) ?_;refine dT2 13 19 ?_ ?_
  ·refine a0k rfl (a1L m0 (a0j _) he rfl (b+i) oM (a1B h2)) ?_;refine dH 19 0 ?_;refine a0k rfl (a1L m0 (a0j _) he rfl (a+i) oM (a1B h1)) ?_;refine go 1 ?_;refine a0F 20 rfl rfl (by kernel_rfl) rfl (.cons _ .slnil) rfl (a0i he rfl rfl rfl (a+i) oM oM) ?_;refine dH 21 0 ?_;refine a1Q _ (a+i) (by first|exact a0j _|exact (a0j _).set rfl _) he rfl rfl rfl rfl rfl oM (by simp[a0v];omega) ?_;refine go 1 ?_;refine a0F 22 rfl rfl (by kernel_rfl) rfl (.cons _ .slnil) rfl (a0i he rfl rfl rfl (b+i) oM oM) ?_;refine dH 23 0 ?_;refine a1Q _ (b+i) (by first|exact a0j _|exact (a0j _).set rfl _) he rfl rfl rfl rfl rfl oM (by simp[a0v];omega) ?_;refine go 10 ?_;exact a0s (i+1) oM oM rfl sb (by rw[a9e];first|rw[←a4H h1 h2] | rw[←a3Q h1 h2 oM])
  ·refine a0k rfl (a1L m0 (a0j _) he rfl (a+i) oM (a1B h1)) ?_;refine dH 13 0 ?_;refine a0k rfl (a1L m0 (a0j _) he rfl (b+i) oM (a1B h2)) ?_;refine go 1 ?_;refine a0F 20 rfl rfl (by kernel_rfl) rfl (.cons _ .slnil) rfl (a0i he rfl rfl rfl (a+i) oM oM) ?_;refine dH 21 0 ?_;refine a1Q _ (a+i) (by first|exact a0j _|exact (a0j _).set rfl _) he rfl rfl rfl rfl rfl oM (by simp[a0v];omega) ?_;refine go 1 ?_;refine a0F 22 rfl rfl (by kernel_rfl) rfl (.cons _ .slnil) rfl (a0i he rfl rfl rfl (b+i) oM oM) ?_;refine dH 23 0 ?_;refine a1Q _ (b+i) (by first|exact a0j _|exact (a0j _).set rfl _) he rfl rfl rfl rfl rfl oM (by simp[a0v];omega) ?_;refine go 10 ?_;exact a0s (i+1) oM oM rfl sb (by rw[a9e];first|rw[←a4H h1 h2] | rw[←a3Q h1 h2 oM])
 ·refine go 5 ?_;obtain rfl:i=n:=oM;exact q_m
theorem c1a (I:IMap) (l:List Evt) (N:Nat) (hN:l.length=N) (g a b:Nat) (f:FuncId) (hp:∀x y:Evt,FnV prog f #[.agg (Day.ch x).toArray,.agg (Day.ch y).toArray] I (.int .i64 (b4A (Day.day x) (Day.day y)))) (hab:a≤b) (hb:b≤l.length) (hl:l.length≤1000000) :
    FnX prog 240 #[.slice (some ⟨g,0,none⟩) N N,.int .i64 ((a:Nat):Int),.int .i64 ((b:Nat):Int),.func (.func f) #[] #[]] I [.blk g 72 (a1C (l)).flatten] (fun u r=>u = .tuple #[]∧∃m,r = .blk g 72 (a1C (m)).flatten∧Seg l m a b):=by
 refine enter func240 call240 rfl ntmps240 rfl fun w0=>?_;refine go 3 ?_;refine o_v rfl (OV.cast (u:=.int .i64 ((a+1:Nat):Int)) (a2T rfl rfl ⟨oM,oM⟩) (congrArg (Value.int .i64) oM)) ?_;refine go 4 ?_
 refine a1i (a+1) (l) (fun i m=>I)
  (fun i m=>[(0,.slice (some ⟨g,0,none⟩) N N),(1,.int .i64 ((a:Nat):Int)),(2,.int .i64 ((b:Nat):Int)),(3,.func (.func f) #[] #[]),(8,.int .i64 ((i:Nat):Int))])
  (fun i m=>[.blk g 72 (a1C (m)).flatten])
  (fun i m=>a+1≤i∧(i≤b∨(m=l∧i=a+1))∧Seg l m a i)
  (fun i m=>b-i) ⟨Nat.le_refl _,.inr ⟨rfl,rfl⟩,Seg.one l a⟩ rfl sb rfl ?_
 intro i m ⟨h1,h2,hs⟩;refine gC 8 (fun h14 p14=>?_) fun h14 p14=>?_
 ·have hlt:i<b:=oM;refine go 11 ?_
  refine a1i (i) (m) (fun j k=>I)
   (fun j k=>[(0,.slice (some ⟨g,0,none⟩) N N),(1,.int .i64 ((a:Nat):Int)),(2,.int .i64 ((b:Nat):Int)),(3,.func (.func f) #[] #[]),(8,.int .i64 ((i:Nat):Int)),(9,.int .i64 ((j:Nat):Int))])
   (fun j k=>[.blk g 72 (a1C (k)).flatten])
   (fun j k=>a≤j∧j≤i∧Ins l k a i j)
   (fun j k=>j) ⟨oM,Nat.le_refl _,Ins.start hs⟩ rfl sb rfl ?_
  intro j k ⟨hj1,hj2,hk⟩;have hkl:=hk.len;refine go 3 ?_;refine dG 0 4 ?_;refine gS 0 21 (fun h21 p21=>?_) fun h21 p21=>?_
  ·have hjk:j<k.length:=oM;have hjk1:j-1<k.length:=oM;refine dG 4 3 ?_;refine d_t 7 rfl rfl (by kernel_rfl) rfl (fun _ m=>m.keeps (.refl _)) (a2L rfl rfl h21 (a0i he rfl rfl rfl (j) oM oM)) ?_;refine d_t 8 rfl rfl (by kernel_rfl) rfl (fun _ m=>m.keeps (.refl _)) (a2L rfl rfl h21 (a1L m0 (a0j _) he rfl (j) oM (a1B hjk))) ?_;refine dG 9 3 ?_;refine d_t 12 rfl rfl (by kernel_rfl) rfl (fun _ m=>m.keeps (.refl _)) (a2L rfl rfl h21 (a0i he rfl rfl rfl (j-1) oM oM)) ?_;refine d_t 13 rfl rfl (by kernel_rfl) rfl (fun _ m=>m.keeps (.refl _)) (a2L rfl rfl h21 (a1L m0 (a0j _) he rfl (j-1) oM (a1B hjk1))) ?_;refine dH 14 0 ?_;refine a0z rfl rfl h21 (a0x (hp _ _) rfl rfl ?_);refine dG 15 2 ?_;refine gC 2 (fun h34 p34=>?_) fun h34 p34=>?_
   ·refine go 4 ?_;refine ds1 ?_;refine dG 0 8 ?_;refine a0F 8 rfl rfl (by kernel_rfl) rfl (.cons _ .slnil) rfl (a0i he rfl rfl rfl (j-1) oM oM) ?_;refine dG 10 2 ?_;refine a0F 12 rfl rfl (by kernel_rfl) rfl (.cons _ .slnil) rfl (a0i he rfl rfl rfl (j) oM oM) ?_;refine dT2 9 13 ?_ ?_
    ·refine a0k rfl (a1L m0 (a0j _) he rfl (j-1) oM (a1B hjk1)) ?_;refine dH 13 0 ?_;refine a0k rfl (a1L m0 (a0j _) he rfl (j) oM (a1B hjk)) ?_;refine go 1 ?_;refine a0F 14 rfl rfl (by kernel_rfl) rfl (.cons _ .slnil) rfl (a0i he rfl rfl rfl (j) oM oM) ?_;refine dH 15 0 ?_;refine a1Q _ (j) (by first|exact a0j _|exact (a0j _).set rfl _) he rfl rfl rfl rfl rfl oM (by simp[a0v];omega) ?_;refine go 1 ?_;refine a0F 16 rfl rfl (by kernel_rfl) rfl (.cons _ .slnil) rfl (a0i he rfl rfl rfl (j-1) oM oM) ?_;refine dH 17 0 ?_;refine a1Q _ (j-1) (by first|exact a0j _|exact (a0j _).set rfl _) he rfl rfl rfl rfl rfl oM (by simp[a0v];omega) ?_;refine go 6 ?_;refine o_v rfl (OV.cast (u:=.int .i64 ((j-1:Nat):Int)) (a1v rfl rfl ⟨oM,oM⟩) (congrArg (Value.int .i64) oM)) ?_;refine go 3 ?_;exact a0t (j-1) (swp k j (j-1)) ⟨oM,oM,hk.step oM oM oM (by have:=p34;simp only[a7i]at this;rw[a1q oM,a1q oM];exact this)⟩ oM rfl sb (by first|rw[←a4H (show j<k.length from oM) (show j-1<k.length from oM)] | rw[←a3Q (show j<k.length from oM) (show j-1<k.length from oM) oM])
    ·refine a0k rfl (a1L m0 (a0j _) he rfl (j) oM (a1B hjk)) ?_;refine dH 9 0 ?_;refine a0k rfl (a1L m0 (a0j _) he rfl (j-1) oM (a1B hjk1)) ?_;refine go 1 ?_;refine a0F 14 rfl rfl (by kernel_rfl) rfl (.cons _ .slnil) rfl (a0i he rfl rfl rfl (j) oM oM) ?_;refine dH 15 0 ?_;refine a1Q _ (j) (by first|exact a0j _|exact (a0j _).set rfl _) he rfl rfl rfl rfl rfl oM (by simp[a0v];omega) ?_;refine go 1 ?_;refine a0F 16 rfl rfl (by kernel_rfl) rfl (.cons _ .slnil) rfl (a0i he rfl rfl rfl (j-1) oM oM) ?_;refine dH 17 0 ?_;refine a1Q _ (j-1) (by first|exact a0j _|exact (a0j _).set rfl _) he rfl rfl rfl rfl rfl oM (by simp[a0v];omega) ?_;refine go 6 ?_;refine o_v rfl (OV.cast (u:=.int .i64 ((j-1:Nat):Int)) (a1v rfl rfl ⟨oM,oM⟩) (congrArg (Value.int .i64) oM)) ?_;refine go 3 ?_;exact a0t (j-1) (swp k j (j-1)) ⟨oM,oM,hk.step oM oM oM (by have:=p34;simp only[a7i]at this;rw[a1q oM,a1q oM];exact this)⟩ oM rfl sb (by first|rw[←a4H (show j<k.length from oM) (show j-1<k.length from oM)] | rw[←a3Q (show j<k.length from oM) (show j-1<k.length from oM) oM])
   ·refine go 12 ?_;exact a0t (i+1) (k) ⟨oM,.inl oM,hk.done oM oM (.inr (by have:=p34;simp only[a7i]at this;rw[a1q oM,a1q oM];omega))⟩ oM rfl sb rfl
  ·refine dG 4 13 ?_;refine go 15 ?_;exact a0t (i+1) (k) ⟨oM,.inl oM,hk.done oM oM (.inl oM)⟩ oM rfl sb rfl
 ·refine go 5 ?_;exact q_x (by refine⟨rfl,m,rfl,?_⟩;rcases h2 with h2|⟨rfl,h2⟩;exact (show i=b from oM)▸hs;exact Seg.none oM)
theorem d2A (I:IMap) (l:List Evt) (N:Nat) (hN:l.length=N) (g a m b:Nat) (f:FuncId) (ham:a<m) (hmb:m<b) (hb:b≤l.length) (hl:l.length≤1000000) :
    FnX prog 256 #[.slice (some ⟨g,0,none⟩) N N,.int .i64 ((a:Nat):Int),.int .i64 ((m:Nat):Int),.int .i64 ((b:Nat):Int),.func (.func f) #[] #[]] I [.blk g 72 (a1C (l)).flatten] (fun u r=>u = .tuple #[]∧∃k,r = .blk g 72 (a1C (k)).flatten∧k.length=l.length∧∀q,k[q]? = a8b (l[·]?) m (m-a) (b-m) q):=by
 refine enter func256 call256 rfl ntmps256 rfl fun w0=>?_;refine go 4 ?_;refine o_v rfl (OV.cast (u:=.int .i64 ((m-a:Nat):Int)) (a1v rfl rfl ⟨oM,oM⟩) (congrArg (Value.int .i64) oM)) ?_;refine go 7 ?_;refine o_v rfl (OV.cast (u:=.int .i64 ((b-m:Nat):Int)) (a1v rfl rfl ⟨oM,oM⟩) (congrArg (Value.int .i64) oM)) ?_;refine go 5 ?_
 refine a2B (m-a) (b-m) (l) (fun i j k=>I)
  (fun i j k=>[(0,.slice (some ⟨g,0,none⟩) N N),(1,.int .i64 ((a:Nat):Int)),(2,.int .i64 ((m:Nat):Int)),(3,.int .i64 ((b:Nat):Int)),(4,.func (.func f) #[] #[]),(10,.int .i64 ((i:Nat):Int)),(11,.int .i64 ((j:Nat):Int))])
  (fun i j k=>[.blk g 72 (a1C (k)).flatten])
  (fun i j k=>1≤i∧1≤j∧i≤m∧m+j≤l.length∧k.length=l.length∧∀q,a8b (k[·]?) m i j q=a8b (l[·]?) m (m-a) (b-m) q)
  (fun i j k=>i+j) ⟨oM,oM,oM,oM,rfl,fun q=>rfl⟩ rfl sb rfl ?_
 intro i j k ⟨hi1,hj1,him,hmj,hkl,hk⟩;refine gC 8 (fun h20 p20=>?_) fun h20 p20=>?_
 ·refine gC 10 (fun h23 p23=>?_) fun h23 p23=>?_
  ·refine go 5 ?_;refine o_v rfl (OV.cast (u:=.int .i64 ((m-i:Nat):Int)) (a1v rfl rfl ⟨oM,oM⟩) (congrArg (Value.int .i64) oM)) ?_;refine go 4 ?_;refine a4v (b0k _ k N oM g (m-i) m j f oM oM oM) rfl rfl ?_;refine go 5 ?_;refine o_v rfl (OV.cast (u:=.int .i64 ((i-j:Nat):Int)) (a1v rfl rfl ⟨oM,oM⟩) (congrArg (Value.int .i64) oM)) ?_;refine go 4 ?_;exact a1r (i-j) (j) (a9e k (m-i) m j) ⟨oM,oM,oM,oM,(a3N _ _ _ _).trans hkl,fun q=>(c6V oM oM (a5D _ oM oM) q).trans (hk q)⟩ oM rfl sb rfl
  ·refine go 5 ?_;refine o_v rfl (OV.cast (u:=.int .i64 ((m-i:Nat):Int)) (a1v rfl rfl ⟨oM,oM⟩) (congrArg (Value.int .i64) oM)) ?_;refine go 4 ?_;refine o_v rfl (OV.cast (u:=.int .i64 ((m+j-i:Nat):Int)) (a1v rfl rfl ⟨oM,oM⟩) (congrArg (Value.int .i64) oM)) ?_;refine go 3 ?_;refine a4v (b0k _ k N oM g (m-i) (m+j-i) i f oM oM oM) rfl rfl ?_;refine go 5 ?_;refine o_v rfl (OV.cast (u:=.int .i64 ((j-i:Nat):Int)) (a1v rfl rfl ⟨oM,oM⟩) (congrArg (Value.int .i64) oM)) ?_;refine go 4 ?_;exact a1r (i) (j-i) (a9e k (m-i) (m+j-i) i) ⟨oM,oM,oM,oM,(a3N _ _ _ _).trans hkl,fun q=>(c6W oM oM (a5D _ oM oM) q).trans (hk q)⟩ oM rfl sb rfl
 ·obtain rfl:i=j:=by have:=p20;omega
  refine go 9 ?_;refine o_v rfl (OV.cast (u:=.int .i64 ((m-i:Nat):Int)) (a1v rfl rfl ⟨oM,oM⟩) (congrArg (Value.int .i64) oM)) ?_;refine go 4 ?_;refine a4v (b0k _ k N oM g (m-i) m i f oM oM oM) rfl rfl ?_;refine go 2 ?_;exact q_x ⟨rfl,a9e k (m-i) m i,rfl,(a3N _ _ _ _).trans hkl,fun q=>(c6U him (a5D _ oM oM) q).trans (hk q)⟩
theorem c2K (I:IMap) (N g:Nat) (f:FuncId) (hp:∀x y:Evt,FnV prog f #[.agg (Day.ch x).toArray,.agg (Day.ch y).toArray] I (.int .i64 (b4A (Day.day x) (Day.day y)))) (hN0:N≤1000000) (W:Nat) (ih:∀(l:List Evt) (a m b:Nat),l.length=N→b-a<W→a<m→m<b→b≤l.length→SrtD l a m→SrtD l m b→FnX prog 241 #[.slice (some ⟨g,0,none⟩) N N,.int .i64 ((a:Nat):Int),.int .i64 ((m:Nat):Int),.int .i64 ((b:Nat):Int),.func (.func f) #[] #[]] I [.blk g 72 (a1C (l)).flatten] (fun u r=>u = .tuple #[]∧∃m,r = .blk g 72 (a1C (m)).flatten∧Seg l m a b)) (l:List Evt) (a m b:Nat) (hN:l.length=N) (hW:b-a≤W) (ham:a<m) (hmb:m<b) (hb:b≤l.length) (m1:SrtD l a m) (m2:SrtD l m b) :
    FnX prog 241 #[.slice (some ⟨g,0,none⟩) N N,.int .i64 ((a:Nat):Int),.int .i64 ((m:Nat):Int),.int .i64 ((b:Nat):Int),.func (.func f) #[] #[]] I [.blk g 72 (a1C (l)).flatten] (fun u r=>u = .tuple #[]∧∃m,r = .blk g 72 (a1C (m)).flatten∧Seg l m a b):=by
 refine enter func241 call241 rfl ntmps241 rfl fun w0=>?_;refine go 5 ?_;refine o_v rfl (OV.cast (u:=.int .i64 ((m-a:Nat):Int)) (a1v rfl rfl ⟨oM,oM⟩) (congrArg (Value.int .i64) oM)) ?_;refine gC 3 (fun h28 p28=>?_) fun h28 p28=>?_
 ·obtain rfl:m=a+1:=oM;refine go 14 ?_
  refine a1i (a+1) (b) (fun i j=>I)
   (fun i j=>[(0,.slice (some ⟨g,0,none⟩) N N),(1,.int .i64 ((a:Nat):Int)),(2,.int .i64 ((a+1:Nat):Int)),(3,.int .i64 ((b:Nat):Int)),(4,.func (.func f) #[] #[]),(10,.int .i64 ((i:Nat):Int)),(11,.int .i64 ((j:Nat):Int))])
   (fun i j=>[.blk g 72 (a1C (l)).flatten])
   (fun i j=>a+1≤i∧i≤j∧j≤b∧(∀q,a+1≤q→q<i→a0u l q<a0u l a)∧(∀q,j≤q→q<b→a0u l a≤a0u l q))
   (fun i j=>j-i) ⟨oM,oM,oM,fun q _ _=>oM,fun q _ _=>oM⟩ rfl sb rfl ?_
  intro i j ⟨hi1,hij,hjb,hlo,hhi⟩;refine gC 8 (fun h33 p33=>?_) fun h33 p33=>?_
  ·have hh:(i+j) / 2<l.length:=oM;have ha0:a<l.length:=oM;refine go 8 ?_;refine o_v rfl (a2d he he rfl (m:=(i:Int)+(j:Int)) (wrap_u64 _ oM oM)) ?_;refine o_v rfl (a6J rfl (by decide)) ?_;refine o_v rfl (a2d he he rfl (m:=(((i+j) / 2:Nat):Int)) (by rw[IntKind.wrap_i64];omega)) ?_;refine go 5 ?_;refine dG 0 3 ?_;refine a0F 3 rfl rfl (by kernel_rfl) rfl (.refl _) rfl (a0i he rfl rfl rfl ((i+j) / 2) oM oM) ?_;refine a0F 4 rfl rfl (by kernel_rfl) rfl (.refl _) rfl (a1L m0 (a0j _) he rfl ((i+j) / 2) oM (a1B hh)) ?_;refine dG 5 2 ?_;refine a0F 7 rfl rfl (by kernel_rfl) rfl (.refl _) rfl (a0i he rfl rfl rfl (a) oM oM) ?_;refine a0F 8 rfl rfl (by kernel_rfl) rfl (.refl _) rfl (a1L m0 (a0j _) he rfl (a) oM (a1B ha0)) ?_;refine dH 9 0 ?_;refine cV (hp _ _) ?_;refine dG 10 1 ?_;refine gC 2 (fun h50 p50=>?_) fun h50 p50=>?_
   ·refine go 7 ?_;exact a0t ((i+j) / 2+1) (j) ⟨oM,oM,oM,fun q q1 q2=>by have:=m2.le (p:=q) (q:=(i+j) / 2) q1 oM oM;have:=c0d p50;omega,hhi⟩ oM rfl sb rfl
   ·refine go 6 ?_;exact a0t (i) ((i+j) / 2) ⟨oM,oM,oM,hlo,fun q q1 q2=>by have:=m2.le (p:=(i+j) / 2) (q:=q) oM q1 q2;have:=c0c p50;omega⟩ oM rfl sb rfl
  ·obtain rfl:i=j:=oM;refine go 13 ?_
   refine a0w (α:=Nat) 0 (fun t=>I)
    (fun t=>[(0,.slice (some ⟨g,0,none⟩) N N),(1,.int .i64 ((a:Nat):Int)),(2,.int .i64 ((a+1:Nat):Int)),(3,.int .i64 ((b:Nat):Int)),(4,.func (.func f) #[] #[]),(10,.int .i64 ((i:Nat):Int)),(13,.int .i64 ((a+t:Nat):Int))])
    (fun t=>[.blk g 72 (a1C (bub l a t)).flatten])
    (fun t=>a+t+1≤i)
    (fun t=>i-t) oM rfl sb rfl ?_
   intro t ht;refine go 5 ?_;refine o_v rfl (OV.cast (u:=.int .i64 ((i-1:Nat):Int)) (a1v rfl rfl ⟨oM,oM⟩) (congrArg (Value.int .i64) oM)) ?_;refine gC 3 (fun h58 p58=>?_) fun h58 p58=>?_
   ·have hbl:=a9q l a t;have hk1:a+t<(bub l a t).length:=oM;have hk2:a+t+1<(bub l a t).length:=oM;refine go 4 ?_;refine ds1 ?_;refine dG 0 4 ?_;refine a0F 4 rfl rfl (by kernel_rfl) rfl (.cons _ .slnil) rfl (OV.cast (u:=.int .i64 ((a+t+1:Nat):Int)) (a2T rfl rfl ⟨oM,oM⟩) (congrArg (Value.int .i64) oM)) ?_;refine dG 5 2 ?_;refine a0F 7 rfl rfl (by kernel_rfl) rfl (.cons _ .slnil) rfl (OV.cast (u:=.int .i64 ((a+t+1:Nat):Int)) (a2T rfl rfl ⟨oM,oM⟩) (congrArg (Value.int .i64) oM)) ?_;refine a0F 8 rfl rfl (by kernel_rfl) rfl (.cons _ .slnil) rfl (a0i he rfl rfl rfl (a+t+1) oM oM) ?_;refine dG 10 2 ?_;refine a0F 12 rfl rfl (by kernel_rfl) rfl (.cons _ .slnil) rfl (a0i he rfl rfl rfl (a+t) oM oM) ?_;refine dT2 9 13 ?_ ?_
    ·refine a0k rfl (a1L m0 (a0j _) he rfl (a+t+1) oM (a1B hk2)) ?_;refine dH 13 0 ?_;refine a0k rfl (a1L m0 (a0j _) he rfl (a+t) oM (a1B hk1)) ?_;refine go 1 ?_;refine a0F 14 rfl rfl (by kernel_rfl) rfl (.cons _ .slnil) rfl (a0i he rfl rfl rfl (a+t) oM oM) ?_;refine dH 15 0 ?_;refine a1Q _ (a+t) (by first|exact a0j _|exact (a0j _).set rfl _) he rfl rfl rfl rfl rfl oM (by simp[a0v];omega) ?_;refine go 1 ?_;refine a0F 16 rfl rfl (by kernel_rfl) rfl (.cons _ .slnil) rfl (a0i he rfl rfl rfl (a+t+1) oM oM) ?_;refine dH 17 0 ?_;refine a1Q _ (a+t+1) (by first|exact a0j _|exact (a0j _).set rfl _) he rfl rfl rfl rfl rfl oM (by simp[a0v];omega) ?_;refine go 6 ?_;refine o_v rfl (OV.cast (u:=.int .i64 ((a+(t+1):Nat):Int)) (a2T rfl rfl ⟨oM,oM⟩) (congrArg (Value.int .i64) oM)) ?_;refine go 3 ?_;exact a0s (t+1) oM oM rfl sb (by rw[bub];first|rw[←a4H hk1 hk2] | rw[←a3Q hk1 hk2 oM])
    ·refine a0k rfl (a1L m0 (a0j _) he rfl (a+t) oM (a1B hk1)) ?_;refine dH 9 0 ?_;refine a0k rfl (a1L m0 (a0j _) he rfl (a+t+1) oM (a1B hk2)) ?_;refine go 1 ?_;refine a0F 14 rfl rfl (by kernel_rfl) rfl (.cons _ .slnil) rfl (a0i he rfl rfl rfl (a+t) oM oM) ?_;refine dH 15 0 ?_;refine a1Q _ (a+t) (by first|exact a0j _|exact (a0j _).set rfl _) he rfl rfl rfl rfl rfl oM (by simp[a0v];omega) ?_;refine go 1 ?_;refine a0F 16 rfl rfl (by kernel_rfl) rfl (.cons _ .slnil) rfl (a0i he rfl rfl rfl (a+t+1) oM oM) ?_;refine dH 17 0 ?_;refine a1Q _ (a+t+1) (by first|exact a0j _|exact (a0j _).set rfl _) he rfl rfl rfl rfl rfl oM (by simp[a0v];omega) ?_;refine go 6 ?_;refine o_v rfl (OV.cast (u:=.int .i64 ((a+(t+1):Nat):Int)) (a2T rfl rfl ⟨oM,oM⟩) (congrArg (Value.int .i64) oM)) ?_;refine go 3 ?_;exact a0s (t+1) oM oM rfl sb (by rw[bub];first|rw[←a4H hk1 hk2] | rw[←a3Q hk1 hk2 oM])
   ·refine go 8 ?_;exact q_x ⟨rfl,_,rfl,(show i-1-a=t from oM)▸b6C m2 hi1 hjb hb hlo hhi⟩
 ·have hma:a+2≤m:=oM;refine go 7 ?_;refine o_v rfl (OV.cast (u:=.int .i64 ((b-m:Nat):Int)) (a1v rfl rfl ⟨oM,oM⟩) (congrArg (Value.int .i64) oM)) ?_;refine gC 3 (fun h80 p80=>?_) fun h80 p80=>?_
  ·obtain rfl:b=m+1:=oM;refine go 14 ?_
   refine a1i (a) (m) (fun i j=>I)
    (fun i j=>[(0,.slice (some ⟨g,0,none⟩) N N),(1,.int .i64 ((a:Nat):Int)),(2,.int .i64 ((m:Nat):Int)),(3,.int .i64 ((m+1:Nat):Int)),(4,.func (.func f) #[] #[]),(14,.int .i64 ((i:Nat):Int)),(15,.int .i64 ((j:Nat):Int))])
    (fun i j=>[.blk g 72 (a1C (l)).flatten])
    (fun i j=>a≤i∧i≤j∧j≤m∧(∀q,a≤q→q<i→a0u l q≤a0u l m)∧(∀q,j≤q→q<m→a0u l m<a0u l q))
    (fun i j=>j-i) ⟨oM,oM,oM,fun q _ _=>oM,fun q _ _=>oM⟩ rfl sb rfl ?_
   intro i j ⟨hi1,hij,hjb,hlo,hhi⟩;refine gC 8 (fun h85 p85=>?_) fun h85 p85=>?_
   ·have hh:(i+j) / 2<l.length:=oM;have hm0:m<l.length:=oM;refine go 8 ?_;refine o_v rfl (a2d he he rfl (m:=(i:Int)+(j:Int)) (wrap_u64 _ oM oM)) ?_;refine o_v rfl (a6J rfl (by decide)) ?_;refine o_v rfl (a2d he he rfl (m:=(((i+j) / 2:Nat):Int)) (by rw[IntKind.wrap_i64];omega)) ?_;refine go 5 ?_;refine dG 0 3 ?_;refine a0F 3 rfl rfl (by kernel_rfl) rfl (.refl _) rfl (a0i he rfl rfl rfl (m) oM oM) ?_;refine a0F 4 rfl rfl (by kernel_rfl) rfl (.refl _) rfl (a1L m0 (a0j _) he rfl (m) oM (a1B hm0)) ?_;refine dG 5 2 ?_;refine a0F 7 rfl rfl (by kernel_rfl) rfl (.refl _) rfl (a0i he rfl rfl rfl ((i+j) / 2) oM oM) ?_;refine a0F 8 rfl rfl (by kernel_rfl) rfl (.refl _) rfl (a1L m0 (a0j _) he rfl ((i+j) / 2) oM (a1B hh)) ?_;refine dH 9 0 ?_;refine cV (hp _ _) ?_;refine dG 10 2 ?_;refine gC 2 (fun h103 p103=>?_) fun h103 p103=>?_
    ·refine go 7 ?_;exact a0t ((i+j) / 2+1) (j) ⟨oM,oM,oM,fun q q1 q2=>by have:=m1.le (p:=q) (q:=(i+j) / 2) q1 oM oM;have:=c0c p103;omega,hhi⟩ oM rfl sb rfl
    ·refine go 6 ?_;exact a0t (i) ((i+j) / 2) ⟨oM,oM,oM,hlo,fun q q1 q2=>by have:=m1.le (p:=(i+j) / 2) (q:=q) oM q1 q2;have:=c0d p103;omega⟩ oM rfl sb rfl
   ·obtain rfl:i=j:=oM;refine go 13 ?_
    refine a0w (α:=Nat) 0 (fun t=>I)
     (fun t=>[(0,.slice (some ⟨g,0,none⟩) N N),(1,.int .i64 ((a:Nat):Int)),(2,.int .i64 ((m:Nat):Int)),(3,.int .i64 ((m+1:Nat):Int)),(4,.func (.func f) #[] #[]),(14,.int .i64 ((i:Nat):Int)),(17,.int .i64 ((m-t:Nat):Int))])
     (fun t=>[.blk g 72 (a1C (bud l m t)).flatten])
     (fun t=>t+i≤m)
     (fun t=>m-t) oM rfl ⟨rfl,rfl,rfl,rfl,rfl,rfl,congrArg (fun z:Int=>some (Value.int .i64 z)) oM,trivial⟩ rfl ?_
    intro t ht;refine gC 8 (fun h110 p110=>?_) fun h110 p110=>?_
    ·have hbl:=a9r l m t;have hk1:m-t<(bud l m t).length:=oM;have hk2:m-t-1<(bud l m t).length:=oM;refine go 4 ?_;refine ds1 ?_;refine dG 0 4 ?_;refine a0F 4 rfl rfl (by kernel_rfl) rfl (.cons _ .slnil) rfl (OV.cast (u:=.int .i64 ((m-t-1:Nat):Int)) (a1v rfl rfl ⟨oM,oM⟩) (congrArg (Value.int .i64) oM)) ?_;refine dG 5 2 ?_;refine a0F 7 rfl rfl (by kernel_rfl) rfl (.cons _ .slnil) rfl (OV.cast (u:=.int .i64 ((m-t-1:Nat):Int)) (a1v rfl rfl ⟨oM,oM⟩) (congrArg (Value.int .i64) oM)) ?_;refine a0F 8 rfl rfl (by kernel_rfl) rfl (.cons _ .slnil) rfl (a0i he rfl rfl rfl (m-t-1) oM oM) ?_;refine dG 10 2 ?_;refine a0F 12 rfl rfl (by kernel_rfl) rfl (.cons _ .slnil) rfl (a0i he rfl rfl rfl (m-t) oM oM) ?_;refine dT2 9 13 ?_ ?_
     ·refine a0k rfl (a1L m0 (a0j _) he rfl (m-t-1) oM (a1B hk2)) ?_;refine dH 13 0 ?_;refine a0k rfl (a1L m0 (a0j _) he rfl (m-t) oM (a1B hk1)) ?_;refine go 1 ?_;refine a0F 14 rfl rfl (by kernel_rfl) rfl (.cons _ .slnil) rfl (a0i he rfl rfl rfl (m-t) oM oM) ?_;refine dH 15 0 ?_;refine a1Q _ (m-t) (by first|exact a0j _|exact (a0j _).set rfl _) he rfl rfl rfl rfl rfl oM (by simp[a0v];omega) ?_;refine go 1 ?_;refine a0F 16 rfl rfl (by kernel_rfl) rfl (.cons _ .slnil) rfl (a0i he rfl rfl rfl (m-t-1) oM oM) ?_;refine dH 17 0 ?_;refine a1Q _ (m-t-1) (by first|exact a0j _|exact (a0j _).set rfl _) he rfl rfl rfl rfl rfl oM (by simp[a0v];omega) ?_;refine go 6 ?_;refine o_v rfl (OV.cast (u:=.int .i64 ((m-(t+1):Nat):Int)) (a1v rfl rfl ⟨oM,oM⟩) (congrArg (Value.int .i64) oM)) ?_;refine go 3 ?_;exact a0s (t+1) oM oM rfl sb (by rw[bud];first|rw[←a4H hk1 hk2] | rw[←a3Q hk1 hk2 oM])
     ·refine a0k rfl (a1L m0 (a0j _) he rfl (m-t) oM (a1B hk1)) ?_;refine dH 9 0 ?_;refine a0k rfl (a1L m0 (a0j _) he rfl (m-t-1) oM (a1B hk2)) ?_;refine go 1 ?_;refine a0F 14 rfl rfl (by kernel_rfl) rfl (.cons _ .slnil) rfl (a0i he rfl rfl rfl (m-t) oM oM) ?_;refine dH 15 0 ?_;refine a1Q _ (m-t) (by first|exact a0j _|exact (a0j _).set rfl _) he rfl rfl rfl rfl rfl oM (by simp[a0v];omega) ?_;refine go 1 ?_;refine a0F 16 rfl rfl (by kernel_rfl) rfl (.cons _ .slnil) rfl (a0i he rfl rfl rfl (m-t-1) oM oM) ?_;refine dH 17 0 ?_;refine a1Q _ (m-t-1) (by first|exact a0j _|exact (a0j _).set rfl _) he rfl rfl rfl rfl rfl oM (by simp[a0v];omega) ?_;refine go 6 ?_;refine o_v rfl (OV.cast (u:=.int .i64 ((m-(t+1):Nat):Int)) (a1v rfl rfl ⟨oM,oM⟩) (congrArg (Value.int .i64) oM)) ?_;refine go 3 ?_;exact a0s (t+1) oM oM rfl sb (by rw[bud];first|rw[←a4H hk1 hk2] | rw[←a3Q hk1 hk2 oM])
    ·refine go 8 ?_;exact q_x ⟨rfl,_,rfl,(show m-i=t from oM)▸b0Z m1 hi1 hjb oM hlo hhi⟩
  ·have hmb2:m+2≤b:=oM;refine go 7 ?_;refine o_v rfl (a2d he he rfl (m:=(a:Int)+(b:Int)) (wrap_u64 _ oM oM)) ?_;refine o_v rfl (a6J rfl (by decide)) ?_;refine o_v rfl (a2d he he rfl (m:=(((a+b) / 2:Nat):Int)) (by rw[IntKind.wrap_i64];omega)) ?_;refine go 7 ?_;refine o_v rfl (OV.cast (u:=.int .i64 ((((a+b) / 2)+m:Nat):Int)) (a2T rfl rfl ⟨oM,oM⟩) (congrArg (Value.int .i64) oM)) ?_;refine go 10 ?_;refine a9s (Ix:=(fun S R=>I)) (Lx:=(fun S R=>[(0,.slice (some ⟨g,0,none⟩) N N),(1,.int .i64 ((a:Nat):Int)),(2,.int .i64 ((m:Nat):Int)),(3,.int .i64 ((b:Nat):Int)),(4,.func (.func f) #[] #[]),(18,.int .i64 ((((a+b) / 2):Nat):Int)),(19,.int .i64 ((((a+b) / 2)+m:Nat):Int)),(20,.int .i64 ((S:Nat):Int)),(21,.int .i64 ((R:Nat):Int))])) (Hx:=(fun S R=>[.blk g 72 (a1C (l)).flatten])) (p:=(fun S R=>(((a+b) / 2)<m∧S=((a+b) / 2)+m-b∧R=((a+b) / 2))∨(m≤((a+b) / 2)∧S=a∧R=m))) ?_ ?_
   ·refine gC 7 (fun h140 p140=>?_) fun h140 p140=>?_
    ·refine go 4 ?_;refine o_v rfl (OV.cast (u:=.int .i64 ((((a+b) / 2)+m-b:Nat):Int)) (a1v rfl rfl ⟨oM,oM⟩) (congrArg (Value.int .i64) oM)) ?_;refine go 8 ?_;exact a3G (((a+b) / 2)+m-b) (((a+b) / 2)) (.inl ⟨oM,rfl,rfl⟩) sb rfl rfl
    ·refine go 11 ?_;exact a3G (a) (m) (.inr ⟨oM,rfl,rfl⟩) sb rfl rfl
   ·intro S R hS;refine go 3 ?_;refine o_v rfl (OV.cast (u:=.int .i64 ((((a+b) / 2)+m-1:Nat):Int)) (a1v rfl rfl ⟨oM,oM⟩) (congrArg (Value.int .i64) oM)) ?_;refine go 5 ?_
    refine a1i (S) (R) (fun s r=>I)
     (fun s r=>[(0,.slice (some ⟨g,0,none⟩) N N),(1,.int .i64 ((a:Nat):Int)),(2,.int .i64 ((m:Nat):Int)),(3,.int .i64 ((b:Nat):Int)),(4,.func (.func f) #[] #[]),(18,.int .i64 ((((a+b) / 2):Nat):Int)),(19,.int .i64 ((((a+b) / 2)+m:Nat):Int)),(20,.int .i64 ((s:Nat):Int)),(21,.int .i64 ((r:Nat):Int)),(22,.int .i64 ((((a+b) / 2)+m-1:Nat):Int))])
     (fun s r=>[.blk g 72 (a1C (l)).flatten])
     (fun s r=>S≤s∧s≤r∧r≤R∧(∀q,S≤q→q<s→a0u l q≤a0u l (((a+b) / 2)+m-1-q))∧(∀q,r≤q→q<R→a0u l (((a+b) / 2)+m-1-q)<a0u l q))
     (fun s r=>r-s) ⟨oM,oM,oM,fun q _ _=>oM,fun q _ _=>oM⟩ rfl sb rfl ?_
    intro s r ⟨hs1,hsr,hrR,hlo,hhi⟩;refine gC 8 (fun h151 p151=>?_) fun h151 p151=>?_
    ·have hh:(s+r) / 2<l.length:=oM;have hh2:((a+b) / 2)+m-1-(s+r) / 2<l.length:=oM;refine go 8 ?_;refine o_v rfl (a2d he he rfl (m:=(s:Int)+(r:Int)) (wrap_u64 _ oM oM)) ?_;refine o_v rfl (a6J rfl (by decide)) ?_;refine o_v rfl (a2d he he rfl (m:=(((s+r) / 2:Nat):Int)) (by rw[IntKind.wrap_i64];omega)) ?_;refine go 5 ?_;refine dG 0 4 ?_;refine a0F 4 rfl rfl (by kernel_rfl) rfl (.refl _) rfl (OV.cast (u:=.int .i64 ((((a+b) / 2)+m-1-(s+r) / 2:Nat):Int)) (a1v rfl rfl ⟨oM,oM⟩) (congrArg (Value.int .i64) oM)) ?_;refine a0F 5 rfl rfl (by kernel_rfl) rfl (.refl _) rfl (a0i he rfl rfl rfl (((a+b) / 2)+m-1-(s+r) / 2) oM oM) ?_;refine a0F 6 rfl rfl (by kernel_rfl) rfl (.refl _) rfl (a1L m0 (a0j _) he rfl (((a+b) / 2)+m-1-(s+r) / 2) oM (a1B hh2)) ?_;refine dG 7 2 ?_;refine a0F 9 rfl rfl (by kernel_rfl) rfl (.refl _) rfl (a0i he rfl rfl rfl ((s+r) / 2) oM oM) ?_;refine a0F 10 rfl rfl (by kernel_rfl) rfl (.refl _) rfl (a1L m0 (a0j _) he rfl ((s+r) / 2) oM (a1B hh)) ?_;refine dH 11 0 ?_;refine cV (hp _ _) ?_;refine dG 12 2 ?_;refine gC 2 (fun h171 p171=>?_) fun h171 p171=>?_
     ·refine go 7 ?_;exact a0t ((s+r) / 2+1) (r) ⟨oM,oM,oM,c7a m1 m2 ham hmb rfl hS (h:=(s+r) / 2) (r:=r) oM oM hrR (c0c p171),hhi⟩ oM rfl sb rfl
     ·refine go 6 ?_;exact a0t (s) ((s+r) / 2) ⟨oM,oM,oM,hlo,c6Z m1 m2 ham hmb rfl hS (h:=(s+r) / 2) (s:=s) hs1 oM oM (c0d p171)⟩ oM rfl sb rfl
    ·obtain rfl:s=r:=oM;obtain⟨hx,hy⟩:=c2y m1 m2 ham hmb rfl hS hs1 hrR hlo hhi;have g0:a≤s:=oM;have g1:s≤m:=oM;have g2:m≤((a+b) / 2+m-s):=oM;have g3:((a+b) / 2+m-s)≤b:=oM;have hc:s+(((a+b) / 2+m-s)-m)=((a+b) / 2):=oM;refine go 9 ?_;refine o_v rfl (OV.cast (u:=.int .i64 ((((a+b) / 2+m-s):Nat):Int)) (a1v rfl rfl ⟨oM,oM⟩) (congrArg (Value.int .i64) oM)) ?_;refine go 4 ?_;refine a3O (α:=List Evt) (Ix:=(fun k=>I)) (Lx:=(fun k=>[(0,.slice (some ⟨g,0,none⟩) N N),(1,.int .i64 ((a:Nat):Int)),(2,.int .i64 ((m:Nat):Int)),(3,.int .i64 ((b:Nat):Int)),(4,.func (.func f) #[] #[]),(18,.int .i64 ((((a+b) / 2):Nat):Int)),(20,.int .i64 ((s:Nat):Int)),(24,.int .i64 ((((a+b) / 2+m-s):Nat):Int))])) (Hx:=(fun k=>[.blk g 72 (a1C (k)).flatten])) (p:=(fun k=>Rot l k a s m ((a+b) / 2+m-s) b)) ?_ ?_
     ·refine gS 6 181 (fun h181 p181=>?_) fun h181 p181=>?_
      ·refine gC 6 (fun h185 p185=>?_) fun h185 p185=>?_
       ·refine go 7 ?_;refine a1m (d2A _ l N hN g s m ((a+b) / 2+m-s) f oM oM oM oM) rfl rfl fun v191 s191 q191=>?_;obtain⟨rfl,k,rfl,hkl,hk⟩:=q191;refine go 2 ?_;exact a1s k (Rot.of g1 g2 oM hkl hk hx) sb rfl rfl
       ·refine go 2 ?_;exact a1s l (Rot.id oM g1 g2) sb rfl rfl
      ·refine go 9 ?_;exact a1s l (Rot.id oM g1 g2) sb rfl rfl
     ·intro k hk;refine go 1 ?_;refine a3O (α:=List Evt) (Ix:=(fun k1=>I)) (Lx:=(fun k1=>[(0,.slice (some ⟨g,0,none⟩) N N),(1,.int .i64 ((a:Nat):Int)),(2,.int .i64 ((m:Nat):Int)),(3,.int .i64 ((b:Nat):Int)),(4,.func (.func f) #[] #[]),(18,.int .i64 ((((a+b) / 2):Nat):Int)),(20,.int .i64 ((s:Nat):Int)),(24,.int .i64 ((((a+b) / 2+m-s):Nat):Int))])) (Hx:=(fun k1=>[.blk g 72 (a1C (k1)).flatten])) (p:=(fun k1=>Seg k k1 a ((a+b) / 2))) ?_ ?_
      ·refine gS 6 195 (fun h195 p195=>?_) fun h195 p195=>?_
       ·refine gC 6 (fun h199 p199=>?_) fun h199 p199=>?_
        ·refine go 7 ?_;refine a1m (ih k a s ((a+b) / 2) (hk.len.trans hN) oM oM oM (by have:=hk.len;omega) (hk.p1 m1 g1) ((hk.p2 m2 g1 g2 g3).sub (Nat.le_refl _) oM)) rfl rfl fun v205 s205 q205=>?_;obtain⟨rfl,k1,rfl,hk1⟩:=q205;refine go 2 ?_;exact a1s k1 hk1 sb rfl rfl
        ·refine go 2 ?_;exact a1s k (Seg.refl' (hk.left m1 m2 g1 g2 g3 hc oM g0)) sb rfl rfl
       ·refine go 9 ?_;exact a1s k (Seg.refl' (hk.left m1 m2 g1 g2 g3 hc oM g0)) sb rfl rfl
      ·intro k1 hk1;have hl1:k1.length=N:=hk1.len.trans (hk.len.trans hN);refine gS 6 209 (fun h209 p209=>?_) fun h209 p209=>?_
       ·refine gC 6 (fun h213 p213=>?_) fun h213 p213=>?_
        ·refine go 7 ?_;refine a1m (ih k1 ((a+b) / 2) ((a+b) / 2+m-s) b hl1 oM oM oM oM (hk1.keepD (Nat.le_refl _) ((hk.p3 m1 g0 g1 g2).sub oM (Nat.le_refl _))) (hk1.keepD oM (hk.p4 m2 g1 g2))) rfl rfl fun v219 s219 q219=>?_;obtain⟨rfl,k2,rfl,hk2⟩:=q219;refine go 2 ?_;exact q_x ⟨rfl,k2,rfl,hk.done m1 m2 g0 g1 g2 g3 hb hc hx hy hk1 hk2⟩
        ·refine go 2 ?_;exact q_x ⟨rfl,k1,rfl,hk.done m1 m2 g0 g1 g2 g3 hb hc hx hy hk1 (Seg.refl' (hk1.keepD (Nat.le_refl _) (hk.right m1 m2 g0 g1 g2 hc oM g3)))⟩
       ·refine go 9 ?_;exact q_x ⟨rfl,k1,rfl,hk.done m1 m2 g0 g1 g2 g3 hb hc hx hy hk1 (Seg.refl' (hk1.keepD (Nat.le_refl _) (hk.right m1 m2 g0 g1 g2 hc oM g3)))⟩
theorem b7J (I:IMap) (N g:Nat) (f:FuncId) (hp:∀x y:Evt,FnV prog f #[.agg (Day.ch x).toArray,.agg (Day.ch y).toArray] I (.int .i64 (b4A (Day.day x) (Day.day y)))) (hN0:N≤1000000) (W:Nat):∀(l:List Evt) (a m b:Nat),l.length=N→b-a≤W→a<m→m<b→b≤l.length→SrtD l a m→SrtD l m b→FnX prog 241 #[.slice (some ⟨g,0,none⟩) N N,.int .i64 ((a:Nat):Int),.int .i64 ((m:Nat):Int),.int .i64 ((b:Nat):Int),.func (.func f) #[] #[]] I [.blk g 72 (a1C (l)).flatten] (fun u r=>u = .tuple #[]∧∃m,r = .blk g 72 (a1C (m)).flatten∧Seg l m a b):=by
 induction W using Nat.strongRecOn with
 |_ W ih=>exact fun l a m b hN hW ham hmb hb m1 m2=>c2K I N g f hp hN0 W (fun l' a' m' b' h1 h2 h3 h4 h5 h6 h7=>ih (b'-a') h2 l' a' m' b' h1 (Nat.le_refl _) h3 h4 h5 h6 h7) l a m b hN hW ham hmb hb m1 m2
theorem d2H (I:IMap) (N g:Nat) (f:FuncId) (hp:∀x y:Evt,FnV prog f #[.agg (Day.ch x).toArray,.agg (Day.ch y).toArray] I (.int .i64 (b4A (Day.day x) (Day.day y)))) (hN0:N≤1000000) (l:List Evt) (hN:l.length=N) :
    FnX prog 201 #[.slice (some ⟨g,0,none⟩) N N,.int .i64 ((N:Nat):Int),.func (.func f) #[] #[]] I [.blk g 72 (a1C (l)).flatten] (fun u r=>u = .tuple #[]∧∃m,r = .blk g 72 (a1C (m)).flatten∧Stb l m∧SrtD m 0 N):=by
 refine enter func201 call201 rfl ntmps201 rfl fun w0=>?_;refine go 14 ?_
 refine a1i (0) (l) (fun a m=>I)
  (fun a m=>[(0,.slice (some ⟨g,0,none⟩) N N),(1,.int .i64 ((N:Nat):Int)),(2,.func (.func f) #[] #[]),(6,.int .i64 20),(7,.int .i64 ((a:Nat):Int)),(8,.int .i64 ((a+20:Nat):Int))])
  (fun a m=>[.blk g 72 (a1C (m)).flatten])
  (fun a m=>a≤N∧Stb l m∧Pre m 20 a)
  (fun a m=>N-a) ⟨Nat.zero_le _,Stb.refl l,.zero⟩ rfl sb rfl ?_
 intro a m ⟨ha,hs,hP⟩;have hmN:m.length=N:=hs.1.symm.trans hN;refine gC 8 (fun h13 p13=>?_) fun h13 p13=>?_
 ·refine go 10 ?_;refine a1m (c1a _ m N hmN g a (a+20) f hp oM oM oM) rfl rfl fun v18 s18 q18=>?_;obtain⟨rfl,k18,rfl,h18⟩:=q18;refine go 11 ?_;refine o_v rfl (OV.cast (u:=.int .i64 ((a+20+20:Nat):Int)) (a2T rfl rfl ⟨oM,oM⟩) (congrArg (Value.int .i64) oM)) ?_;refine go 4 ?_;exact a0t (a+20) (k18) ⟨oM,hs.trans h18.stb,hP.put h18⟩ oM rfl sb rfl
 ·refine go 12 ?_;refine a1m (c1a _ m N hmN g a N f hp ha oM oM) rfl rfl fun v27 s27 q27=>?_;obtain⟨rfl,m3,rfl,h27⟩:=q27;refine go 3 ?_
  refine a1i (20) (m3) (fun q m=>I)
   (fun q m=>[(0,.slice (some ⟨g,0,none⟩) N N),(1,.int .i64 ((N:Nat):Int)),(2,.func (.func f) #[] #[]),(6,.int .i64 ((q:Nat):Int))])
   (fun q m=>[.blk g 72 (a1C (m)).flatten])
   (fun q m=>1≤q∧Stb l m∧Blk m q N 0)
   (fun q m=>N-q) ⟨oM,hs.trans h27.stb,hP.last h27 ha oM⟩ rfl sb rfl ?_
  intro q m ⟨hq,hs,hB⟩;have hmN:m.length=N:=hs.1.symm.trans hN;refine gC 8 (fun h30 p30=>?_) fun h30 p30=>?_
  ·refine go 6 ?_;refine o_v rfl (OV.cast (u:=.int .i64 ((2 * q:Nat):Int)) (b2E rfl rfl ⟨oM,oM⟩) (congrArg (Value.int .i64) oM)) ?_;refine go 6 ?_
   refine a1i (0) (m) (fun a k=>I)
    (fun a k=>[(0,.slice (some ⟨g,0,none⟩) N N),(1,.int .i64 ((N:Nat):Int)),(2,.func (.func f) #[] #[]),(6,.int .i64 ((q:Nat):Int)),(7,.int .i64 ((a:Nat):Int)),(8,.int .i64 ((a+2 * q:Nat):Int))])
    (fun a k=>[.blk g 72 (a1C (k)).flatten])
    (fun a k=>a≤N∧Stb l k∧Pre k (2 * q) a∧Blk k q N a)
    (fun a k=>N-a) ⟨Nat.zero_le _,hs,.zero,hB⟩ rfl ⟨rfl,rfl,rfl,rfl,rfl,congrArg (fun z:Int=>some (Value.int .i64 z)) oM,trivial⟩ rfl ?_
   intro a k ⟨ha,hkS,hkP,hkB⟩;have hkN:k.length=N:=hkS.1.symm.trans hN;refine gC 8 (fun h35 p35=>?_) fun h35 p35=>?_
   ·obtain⟨t1,t2,t3⟩:=hkB.two oM hq;refine go 9 ?_;refine o_v rfl (OV.cast (u:=.int .i64 ((a+q:Nat):Int)) (a2T rfl rfl ⟨oM,oM⟩) (congrArg (Value.int .i64) oM)) ?_;refine go 3 ?_;refine a1m (b7J _ N g f hp hN0 _ k a (a+q) (a+2 * q) hkN (Nat.le_refl _) oM oM oM t1 t2) rfl rfl fun v43 s43 q43=>?_;obtain⟨rfl,k43,rfl,h43⟩:=q43;refine go 11 ?_;refine o_v rfl (OV.cast (u:=.int .i64 ((2 * q:Nat):Int)) (b2E rfl rfl ⟨oM,oM⟩) (congrArg (Value.int .i64) oM)) ?_;refine o_v rfl (OV.cast (u:=.int .i64 ((a+2 * q+2 * q:Nat):Int)) (a2T rfl rfl ⟨oM,oM⟩) (congrArg (Value.int .i64) oM)) ?_;refine go 4 ?_;exact a0t (a+2 * q) (k43) ⟨oM,hkS.trans h43.stb,hkP.put h43,t3.same fun z z1 z2=>h43.out z (.inr oM)⟩ oM rfl sb rfl
   ·refine go 6 ?_;refine a3O (α:=List Evt) (Ix:=(fun k=>I)) (Lx:=(fun k=>[(0,.slice (some ⟨g,0,none⟩) N N),(1,.int .i64 ((N:Nat):Int)),(2,.func (.func f) #[] #[]),(6,.int .i64 ((q:Nat):Int))])) (Hx:=(fun k=>[.blk g 72 (a1C (k)).flatten])) (p:=(fun k=>Stb l k∧Blk k (2 * q) N 0)) ?_ ?_
    ·refine go 4 ?_;refine o_v rfl (OV.cast (u:=.int .i64 ((a+q:Nat):Int)) (a2T rfl rfl ⟨oM,oM⟩) (congrArg (Value.int .i64) oM)) ?_;refine gC 10 (fun h54 p54=>?_) fun h54 p54=>?_
     ·obtain⟨t1,t2⟩:=hkB.one oM;refine go 7 ?_;refine a1m (b7J _ N g f hp hN0 _ k a (a+q) N hkN (Nat.le_refl _) oM oM oM t1 (t2 oM)) rfl rfl fun v60 s60 q60=>?_;obtain⟨rfl,k60,rfl,h60⟩:=q60;refine go 2 ?_;exact a1s k60 ⟨hkS.trans h60.stb,hkP.last h60 ha oM⟩ sb rfl rfl
     ·refine go 2 ?_;exact a1s k ⟨hkS,hkP.last (Seg.refl' (hkB.all oM)) ha oM⟩ sb rfl rfl
    ·intro k ⟨hkS,hkB⟩;refine go 2 ?_;refine o_v rfl (OV.cast (u:=.int .i64 ((2 * q:Nat):Int)) (b2E rfl rfl ⟨oM,oM⟩) (congrArg (Value.int .i64) oM)) ?_;refine go 4 ?_;exact a0t (2 * q) (k) ⟨oM,hkS,hkB⟩ oM rfl sb rfl
  ·refine go 5 ?_;exact q_x ⟨rfl,m,rfl,hs,hB.all oM⟩
theorem b9f (I:IMap) (N g:Nat) (f:FuncId) (hp:∀x y:Evt,FnV prog f #[.agg (Day.ch x).toArray,.agg (Day.ch y).toArray] I (.int .i64 (b4A (Day.day x) (Day.day y)))) (hN0:N≤1000000) (l:List Evt) (hN:l.length=N) :
    FnX prog 163 #[.slice (some ⟨g,0,none⟩) N N,.func (.func f) #[] #[]] I [.blk g 72 (a1C (l)).flatten] (fun u r=>u = .tuple #[]∧∃m,r = .blk g 72 (a1C (m)).flatten∧Stb l m∧SrtD m 0 N):=by
 refine enter func163 call163 rfl ntmps163 rfl fun w0=>?_;refine go 6 ?_;refine a1m (d2H _ N g f hp hN0 l hN) rfl rfl fun v8 s8 q8=>?_;obtain⟨rfl,m8,rfl,h8⟩:=q8;refine go 2 ?_;exact q_x ⟨rfl,m8,rfl,h8⟩
theorem c9E (I:IMap) (v:Value) (l:List Evt) (hv:RdS I v l) (hl:l.length≤1000000) (f:FuncId) (hp:∀x y:Evt,FnV prog f #[.agg (Day.ch x).toArray,.agg (Day.ch y).toArray] I (.int .i64 (b4A (Day.day x) (Day.day y)))) :
    FnI prog 111 #[v,.func (.func f) #[] #[]] I (fun u J=>RdS J u (a0Q l)):=by
 obtain⟨A,c,rfl,hA,hc,hm⟩:=hv;refine enter func111 call111 rfl ntmps111 rfl fun w0=>?_;refine go 10 ?_;refine a4w he he rfl rfl rfl oM oM rfl fun g8=>?_;refine go 8 ?_;obtain⟨xss,hx,hcell⟩:=hA.pieces;obtain rfl:=c0l hx;refine a7y (a1C l) 0 he rfl rfl (by rw[a0v];simp) (Uk.rep (c:=[.int .i64 0,.int .i64 0,.string ⟨#[]⟩,.string ⟨#[]⟩,.string ⟨#[]⟩,.string ⟨#[]⟩,.string ⟨#[]⟩,.string ⟨#[]⟩,.int .i64 0,.int .i64 0,.int .i64 0,.int .i64 0,.int .i64 0,.int .i64 0]) rfl _) (a0j l) hx.one (fun _=>by rw[Nat.zero_mul]) (fun hp=>by rw[a0v]at hp;obtain⟨b,o,e,h⟩:=hcell hp;exact⟨b,o,e,fun w mm j u hu=>(h j u hu).at_ mm.con⟩) (by rw[a0v];simp) rfl ?_;refine a4C (yss:=a1C l) (by rw[a0v];simp) ?_;refine go 7 ?_;refine a1m (b9f _ l.length g8 f hp hl l rfl) rfl rfl fun v14 s14 q14=>?_;obtain⟨rfl,m14,rfl,h14,s14⟩:=q14;refine go 10 ?_;have hml:m14.length=l.length:=h14.1.symm;obtain rfl:=b7A h14 (SrtD.pw (by rw[hml];exact s14));refine c2J (m:=l.length) (a0j _) (by rw[a0v,hml]) (by unfold maxLen;omega) ?_;refine a0d (l:=a0Q l) rfl hml.symm (a7k _).flat fun J hJ R=>?_;exact q_i R
theorem d3C (I:IMap) (x y:Evt) :
    FnV prog 112 #[.agg (Day.ch x).toArray,.agg (Day.ch y).toArray] I (.int .i64 (b4A (Day.day x) (Day.day y))):=by
 refine enter func112 call112 rfl ntmps112 rfl fun w0=>?_
 show SX _ _ _ (b1E [.agg x.cells.toArray,.agg y.cells.toArray] 0) _ _
 refine go 4 fun g2=>?_
 refine go 2 fun g3=>?_
 refine go 10 ?_;refine cV (b4D _ _ _) ?_;refine go 5 ?_;exact q_v rfl
theorem d3D (I:IMap) (v:Value) (l:List Evt) (hv:RdS I v l) (hl:l.length≤1000000) :
    FnI prog 78 #[v] I (fun u J=>RdS J u (a0Q l)):=by
 refine enter func78 call78 rfl ntmps78 rfl fun w0=>?_;refine go 9 ?_;refine a0D (c9E _ v l hv hl 112 (fun x y=>d3C _ x y)) rfl rfl fun v4 I4 j4 q4=>?_;refine go 5 ?_;exact q_i q4
end Go.Proofs.YtkndpfncklhhlaaGreat
namespace Go.Proofs.YtkndpfncklhhlaaGreat
open Go Go.Sx Tryz
set_option linter.all false
set_option maxRecDepth 20000
set_option maxHeartbeats 4000000
theorem b0y (I:IMap) (v:Value) (l:List Evt) (hl:l.length≤1000000) (f:FuncId) (cs:List Value) (p:Evt→Bool) (hp:∀I2,ILe I I2→∀x:Evt,FnV prog f ([Value.agg (Day.ch x).toArray]++cs).toArray I2 (.bool (p x))) :
    FnD prog 75 #[v,.func (.func f) #[] cs.toArray] I (.row v 72 14 l.length (a1C l).flatten) (fun u J=>RdS J u (l.filter fun x=>!p x)):=by
 refine enter func75 call75 rfl ntmps75 rfl fun w0=>?_;refine go 10 ?_;refine a9S m0 rfl rfl ((a7k l).flat) (fun I2 hI2 hR=>b1W I2 _ l hR f cs p (fun x _ vs hx=>by cases hx;exact hp I2 hI2 x)) rfl rfl ?_;refine gC 10 (fun h12 p12=>?_) fun h12 p12=>?_
 ·refine go 9 ?_
  have hall:l.filter (fun x=>!p x)=l:=by
    rw[List.filter_eq_self];intro x hx;have:=a7r p l;rw[show decide (0≤a5w p l)=false from by rw[p12];rfl]at this
    simpa using List.any_eq_false.1 this.symm x hx
  refine a0d (l:=l) rfl rfl (a7k l).flat fun J hJ R=>?_;exact q_d (by rw[hall];exact R)
 ·obtain⟨i0,hi0,hx0,hp0,hn0⟩:∃(i:Nat) (h:i<l.length),a5w p l=(i:Int)∧p l[i]=true∧∀j x,j<i→l[j]? = some x→p x=false:=by
    rcases a2h p l with ⟨h1,_⟩|⟨i,hi,h1,h2⟩
    · exfalso;have:=p12;have : -1≤a5w p l:=c8u p l;omega
    · rw[List.find?_eq_some_iff_getElem]at h2
      obtain⟨h3,k,hk,h4,h5⟩:=h2;obtain⟨h6,h7⟩:=c4u h1 hi;exact⟨i,hi,h1,h6,h7⟩
  refine a7L (a0j l) (a0v l) (fun h0 _=>oM) fun g cap rest hv hR hcap hmax=>?_;subst hv;have hcap1:l.length≤cap:=oM;refine go 6 ?_;refine o_v rfl (OV.cast (u:=.int .i64 ((i0+1:Nat):Int)) (a2T rfl rfl ⟨oM,oM⟩) (congrArg (Value.int .i64) (by rw[hx0];omega))) ?_;refine go 4 ?_
  refine a2B (i0) (i0+1) (l) (fun i j m=>I)
   (fun i j m=>[(0,.slice (some ⟨g,0,none⟩) l.length cap),(1,.func (.func f) #[] cs.toArray),(5,.int .i64 ((i:Nat):Int)),(6,.int .i64 ((j:Nat):Int))])
   (fun i j m=>[.blk g 72 (a1C m++rest).flatten])
   (fun i j m=>Del p l m i j)
   (fun i j m=>l.length-j) (Del.start hi0 hp0 hn0) rfl ⟨rfl,rfl,congrArg (fun z:Int=>some (Value.int .i64 z)) hx0,rfl,trivial⟩ rfl ?_
  intro i j m hD;have hml:=hD.len;have hij:=hD.le;have hjl:=hD.hj;refine gC 9 (fun h19 p19=>?_) fun h19 p19=>?_
  ·have hlt:j<l.length:=oM;have hjm:j<m.length:=oM;have hat:=hD.at_ hlt;refine go 8 ?_;refine o_v rfl (a0i he rfl rfl rfl (j) oM oM) ?_;refine o_v rfl (a1L m0 ((a0j _).append hR) he rfl (j) oM (c0m hjm)) ?_;refine go 2 fun g7=>?_
   refine go 9 ?_;refine cV (hp _ (ILe.refl _) _) ?_;refine gC 3 (fun h29 p29=>?_) fun h29 p29=>?_
   ·refine go 5 ?_;refine o_v rfl (a0i he rfl rfl rfl (i) oM oM) ?_;refine go 1 ?_;refine a0b ?_;refine a1Q _ (i) ((a0j _).append hR) he rfl rfl rfl rfl rfl oM (by simp[a0v];omega) ?_;refine go 4 ?_;refine o_v rfl (OV.cast (u:=.int .i64 ((i+1:Nat):Int)) (a2T rfl rfl ⟨oM,oM⟩) (congrArg (Value.int .i64) oM)) ?_;refine go 6 ?_;refine o_v rfl (OV.cast (u:=.int .i64 ((j+1:Nat):Int)) (a2T rfl rfl ⟨oM,oM⟩) (congrArg (Value.int .i64) oM)) ?_;refine go 3 ?_;refine a0b ?_;refine a0a ?_;exact a1r (i+1) (j+1) (m.set i l[j]) (hD.keep hlt (by simpa[hat]using p29)) oM rfl sb (by rw[←c0n _ _ _ oM,hat])
   ·refine go 5 ?_;refine o_v rfl (OV.cast (u:=.int .i64 ((j+1:Nat):Int)) (a2T rfl rfl ⟨oM,oM⟩) (congrArg (Value.int .i64) oM)) ?_;refine go 3 ?_;refine a0a ?_;exact a1r (i) (j+1) (m) (hD.skip hlt (by simpa[hat]using p29)) oM rfl sb rfl
  ·obtain rfl:j=l.length:=oM;have hfi:m.take i=l.filter fun x=>!p x:=by have:=hD.fst;rwa[List.take_length]at this
   refine go 9 ?_;refine o_v rfl (a0K he rfl rfl i rfl oM) ?_;refine go 1 ?_;refine c1L i he he rfl rfl rfl rfl ((a0j _).append hR) (fun _=>a1O (k:=14) oM) (by simp[a0v];omega) ?_;refine go 6 ?_;refine o_v rfl (a1y he rfl rfl i rfl oM) ?_;refine go 5 ?_;have htk:(a1C m++rest).take i=a1C (l.filter fun x=>!p x):=by rw[List.take_append_of_le_length (by rw[a0v];omega),←hfi,a1C,a1C,List.map_take]
   have hll:(l.filter fun x=>!p x).length=i:=by rw[←hfi,List.length_take];omega
   rw[htk];refine a2q (m:=i) (cap:=cap) (a0j _) ((Uk.rep (c:=[.int .i64 0,.int .i64 0,.string ⟨#[]⟩,.string ⟨#[]⟩,.string ⟨#[]⟩,.string ⟨#[]⟩,.string ⟨#[]⟩,.string ⟨#[]⟩,.int .i64 0,.int .i64 0,.int .i64 0,.int .i64 0,.int .i64 0,.int .i64 0]) rfl _).append (Uk.drop ((a0j _).append hR) _)) (by rw[a0v,hll]) (by simp[a0v];omega) hmax ?_;refine a0d (l:=l.filter fun x=>!p x) rfl hll.symm (a7k _).flat fun J hJ R=>?_;exact q_d R
end Go.Proofs.YtkndpfncklhhlaaGreat
namespace Go.Proofs.YtkndpfncklhhlaaGreat
open Go Go.Sx Tryz
set_option linter.all false
set_option maxRecDepth 20000
set_option maxHeartbeats 4000000
theorem b2u (I:IMap) (x:Ivl) :
    FnV prog 193 #[.agg x.cells.toArray] I (.bool (c3v x)):=by
 refine enter func193 call193 rfl ntmps193 rfl fun w0=>?_;refine go 4 fun g1=>?_
 refine gS 9 6 (fun h6 p6=>?_) fun h6 p6=>?_
 ·refine gS 7 13 (fun h13 p13=>?_) fun h13 p13=>?_
  ·refine go 9 ?_;exact q_v (congrArg Value.bool (by simp only[c3v,h6,h13,bS]))
  ·refine go 9 ?_;exact q_v (congrArg Value.bool (by simp only[c3v,h6,h13,bS]))
 ·refine go 16 ?_;exact q_v (congrArg Value.bool (by simp only[c3v,h6,bS]))
theorem c5q (I:IMap) (x:Use) :
    FnV prog 146 #[.agg x.cells.toArray] I (.bool (c7c x)):=by
 refine enter func146 call146 rfl ntmps146 rfl fun w0=>?_;refine go 4 fun g1=>?_
 refine go 6 ?_;refine o_v rfl (a0J (x.km.cells) m0 he rfl rfl rfl) ?_;refine go 1 ?_;refine cV (b2u _ x.km) ?_;refine gS 1 6 (fun h6 p6=>?_) fun h6 p6=>?_
 ·refine go 1 ?_;refine a0P (a0z rfl rfl h6 (a0k rfl (a0J (x.cycles.cells) m0 he rfl rfl rfl) ?_));refine go 1 ?_;refine a0z rfl rfl h6 (a0x (b2u _ x.cycles) rfl rfl ?_);refine gS 2 11 (fun h11 p11=>?_) fun h11 p11=>?_
  ·refine go 1 ?_;refine a0P (a0z rfl rfl h11 (a0k rfl (a0J (x.load.cells) m0 he rfl rfl rfl) ?_));refine go 1 ?_;refine a0z rfl rfl h11 (a0x (b2u _ x.load) rfl rfl ?_);refine go 6 ?_;exact q_v (congrArg Value.bool (by simp only[c7c,h6,h11,bS]))
  ·refine go 9 ?_;exact q_v (congrArg Value.bool (by simp only[c7c,h6,h11,bS]))
 ·refine go 14 ?_;exact q_v (congrArg Value.bool (by simp only[c7c,h6,bS]))
theorem a8a (I:IMap) (e:Evt) (hs:SmE e) :
    FnV prog 93 #[.agg e.cells.toArray] I (.bool (a1t e)):=by
 refine enter func93 call93 rfl ntmps93 rfl fun w0=>?_;refine go 4 fun g1=>?_
 refine go 5 ?_;refine a1h (I':=I) (L':=[(1,.pointer (some ⟨g1,0,none⟩)),(28,.bool (a7j e))]) (H':=[.blk g1 72 e.cells]) ?_ ?_
 ·refine gS 5 8 (fun h8 p8=>?_) fun h8 p8=>?_
  ·refine go 22 ?_;exact a0h ⟨rfl,(bB (by simp only[a7j,h8,bS])),trivial⟩ rfl rfl
  ·refine gS 5 13 (fun h13 p13=>?_) fun h13 p13=>?_
   ·refine go 17 ?_;exact a0h ⟨rfl,(bB (by simp only[a7j,h8,h13,bS])),trivial⟩ rfl rfl
   ·refine gS 5 18 (fun h18 p18=>?_) fun h18 p18=>?_
    ·refine go 12 ?_;exact a0h ⟨rfl,(bB (by simp only[a7j,h8,h13,h18,bS])),trivial⟩ rfl rfl
    ·refine gS 5 23 (fun h23 p23=>?_) fun h23 p23=>?_
     ·refine go 7 ?_;exact a0h ⟨rfl,(bB (by simp only[a7j,h8,h13,h18,h23,bS])),trivial⟩ rfl rfl
     ·refine go 3 ?_;refine a0z rfl rfl h23 (a0x (a7w _ _ hs.1) rfl rfl ?_);refine go 4 ?_;exact a0h ⟨rfl,(bB (by simp only[a7j,h8,h13,h18,h23,bS])),trivial⟩ rfl rfl
 ·refine gC 0 (fun h28 p28=>?_) fun h28 p28=>?_
  ·refine go 8 ?_;exact q_v (congrArg Value.bool (by rw[←a8f];simp only[b0r,h28];rfl))
  ·refine go 13 fun g3=>?_
   refine go 10 ?_;refine a1h (I':=I) (L':=[(1,.pointer (some ⟨g1,0,none⟩)),(3,.pointer (some ⟨g3,0,none⟩)),(4,.bool (a7W e))]) (H':=[.blk g3 72 (a7u e).cells,.blk g1 72 e.cells]) ?_ ?_
   ·refine gC 13 (fun h38 p38=>?_) fun h38 p38=>?_
    ·refine go 13 ?_;refine cV (a7w _ _ hs.2.1) ?_;refine go 4 ?_;exact a0h ⟨rfl,rfl,(bB (by simp only[a7W,p28,p38,h28,h38,Int.reduceEq,reduceIte,if_true,if_false,decide_true,decide_false,bS])),trivial⟩ (by rw[a7u,if_pos p38];rfl) rfl
    ·refine gC 6 (fun h46 p46=>?_) fun h46 p46=>?_
     ·refine go 22 ?_;refine cV (a7w _ _ hs.2.2.1) ?_;refine gS 1 57 (fun h57 p57=>?_) fun h57 p57=>?_
      ·refine go 3 ?_;refine a0z rfl rfl h57 (a0x (a7w _ _ hs.2.2.2.1) rfl rfl ?_);refine gS 2 62 (fun h62 p62=>?_) fun h62 p62=>?_
       ·refine go 10 ?_;exact a0h ⟨rfl,rfl,(bB (by simp only[a7W,p28,p38,p46,p57,p62,h28,h38,h46,h57,h62,Int.reduceEq,reduceIte,if_true,if_false,decide_true,decide_false,bS])),trivial⟩ (by rw[a7u,if_neg p38,if_pos p46];rfl) rfl
       ·refine go 10 ?_;exact a0h ⟨rfl,rfl,(bB (by simp only[a7W,p28,p38,p46,p57,p62,h28,h38,h46,h57,h62,Int.reduceEq,reduceIte,if_true,if_false,decide_true,decide_false,bS])),trivial⟩ (by rw[a7u,if_neg p38,if_pos p46];rfl) rfl
      ·refine go 15 ?_;exact a0h ⟨rfl,rfl,(bB (by simp only[a7W,p28,p38,p46,p57,h28,h38,h46,h57,Int.reduceEq,reduceIte,if_true,if_false,decide_true,decide_false,bS])),trivial⟩ (by rw[a7u,if_neg p38,if_pos p46];rfl) rfl
     ·refine gC 6 (fun h69 p69=>?_) fun h69 p69=>?_
      ·refine go 3 ?_;refine o_v rfl (a0J (e.use.cells) m1 he rfl rfl rfl) ?_;refine go 7 ?_;refine o_v rfl (a0J (e.use.cells) m1 he rfl rfl rfl) ?_;refine go 1 ?_;refine cV (c5q _ e.use) ?_;refine go 4 ?_;exact a0h ⟨rfl,rfl,(bB (by simp only[a7W,p28,p38,p46,p69,h28,h38,h46,h69,Int.reduceEq,reduceIte,if_true,if_false,decide_true,decide_false,bS])),trivial⟩ (by rw[a7u,if_neg p38,if_neg p46,if_pos p69];rfl) rfl
      ·refine gC 6 (fun h77 p77=>?_) fun h77 p77=>?_
       ·refine go 22 ?_;refine cV (a7w _ _ hs.2.2.2.2.1) ?_;refine gS 1 88 (fun h88 p88=>?_) fun h88 p88=>?_
        ·refine gS 6 94 (fun h94 p94=>?_) fun h94 p94=>?_
         ·refine go 9 ?_;exact a0h ⟨rfl,rfl,(bB (by simp only[a7W,p28,p38,p46,p69,p77,p88,p94,h28,h38,h46,h69,h77,h88,h94,Int.reduceEq,reduceIte,if_true,if_false,decide_true,decide_false,bS])),trivial⟩ (by rw[a7u,if_neg p38,if_neg p46,if_neg p69,if_pos p77];rfl) rfl
         ·refine go 9 ?_;exact a0h ⟨rfl,rfl,(bB (by simp only[a7W,p28,p38,p46,p69,p77,p88,p94,h28,h38,h46,h69,h77,h88,h94,Int.reduceEq,reduceIte,if_true,if_false,decide_true,decide_false,bS])),trivial⟩ (by rw[a7u,if_neg p38,if_neg p46,if_neg p69,if_pos p77];rfl) rfl
        ·refine go 15 ?_;exact a0h ⟨rfl,rfl,(bB (by simp only[a7W,p28,p38,p46,p69,p77,p88,h28,h38,h46,h69,h77,h88,Int.reduceEq,reduceIte,if_true,if_false,decide_true,decide_false,bS])),trivial⟩ (by rw[a7u,if_neg p38,if_neg p46,if_neg p69,if_pos p77];rfl) rfl
       ·refine go 3 ?_;exact a0h ⟨rfl,rfl,(bB (by simp only[a7W,p28,p38,p46,p69,p77,h28,h38,h46,h69,h77,Int.reduceEq,reduceIte,if_true,if_false,decide_true,decide_false,bS])),trivial⟩ (by rw[a7u,if_neg p38,if_neg p46,if_neg p69,if_neg p77];rfl) rfl
   ·refine gS 4 101 (fun h101 p101=>?_) fun h101 p101=>?_
    ·refine go 2 ?_;refine a0P (a0z rfl rfl h101 (a0k rfl (a5F T.eqg_72 (b1O (a7u e) e) rfl rfl) ?_));refine go 6 ?_;exact q_v (congrArg Value.bool (by rw[←a8f];simp only[b0r,h28,h101,bS]))
    ·refine go 9 ?_;exact q_v (congrArg Value.bool (by rw[←a8f];simp only[b0r,h28,h101,bS]))
theorem c5p (I:IMap) (v:Value) (l:List Kind) (hv:RdS I v l) (k s:ByteArray) :
    FnE prog 196 #[.agg #[v],.string k,.string s] I (SlotIs I (b5I l k s)):=by
 refine enter func196 call196 rfl ntmps196 rfl fun w0=>?_;refine go 4 fun g3=>?_
 refine go 2 fun g6=>?_
 refine go 8 ?_;refine a2p (a6X I _ l hv k) rfl rfl fun v14 q14=>?_;obtain⟨vs,rfl,ss,rfl,hsl⟩:=q14;obtain⟨A,c0,rfl,hA,hc,hm⟩:=hsl;refine go 5 fun g8=>?_
 refine go 1 ?_;refine a1A _ he rfl rfl rfl rfl rfl (by rfl) ?_;refine go 10 ?_;refine a0c ?_;refine a0a ?_
 refine a0w (α:=Nat) 0 (fun i=>I)
  (fun i=>[(2,.string s),(6,.pointer (some ⟨g6,0,none⟩)),(8,.pointer (some ⟨g8,0,none⟩)),(10,.int .i64 ((i:Nat):Int))])
  (fun i=>[.blk g8 76 (((a2D l k).getD a4Y).cells (.slice A ((a2D l k).getD a4Y).slots.length c0)),.blk g6 130 [.string ⟨#[]⟩,.slice none 0 0,.int .i64 0]])
  (fun i=>i≤((a2D l k).getD a4Y).slots.length∧∀j x,j<i→((a2D l k).getD a4Y).slots[j]? = some x→(fun x=>decide (Slot.name x=s)) x=false)
  (fun i=>((a2D l k).getD a4Y).slots.length-i) ⟨Nat.zero_le _,fun j x hj=>absurd hj (Nat.not_lt_zero j)⟩ rfl sb rfl ?_
 intro i ⟨hi,hn⟩;refine gC 10 (fun h21 p21=>?_) fun h21 p21=>?_
 ·have hlt:i<((a2D l k).getD a4Y).slots.length:=oM;refine go 9 ?_;obtain⟨b27,o27,w27,e27,c27,r27⟩:=RdA.at_ hA (i:=i) hlt;obtain⟨q27,rfl,B27,d27,rfl,hB27,hd27,hm27⟩:=r27;refine gC 7 (fun h31 p31=>?_) fun h31 p31=>?_
  ·refine go 5 ?_;obtain⟨b35,o35,w35,e35,c35,r35⟩:=RdA.at_ hA (i:=i) hlt;obtain⟨q35,rfl,B35,d35,rfl,hB35,hd35,hm35⟩:=r35;refine go 3 ?_;refine a0b ?_;refine go 11 ?_;exact q_e (SlotIs.of (c0w (p:=fun x=>decide (Slot.name x=s)) hlt h31 hn) ⟨_,rfl,B35,d35,rfl,hB35,hd35,hm35⟩)
  ·refine go 9 ?_;exact a0s (i+1) ⟨oM,a3c (p:=fun x=>decide (Slot.name x=s)) hn hlt h31⟩ oM rfl sb rfl
 ·refine go 9 ?_;refine a0b ?_;refine go 6 ?_;exact q_e (SlotIs.none (c0x (p:=fun x=>decide (Slot.name x=s)) (fun j x hj=>hn j x oM)))
theorem b1l (I:IMap) (v:Value) (l:List Kind) (hv:RdS I v l) (k s p:ByteArray) :
    FnV prog 153 #[.agg #[v],.string k,.string s,.string p] I (.bool (a4Q l k s p)):=by
 refine enter func153 call153 rfl ntmps153 rfl fun w0=>?_;refine go 4 fun g4=>?_
 refine go 9 ?_;refine a2p (c5p I _ l hv k s) rfl rfl fun v15 q15=>?_;obtain⟨vs,rfl,ss,rfl,hsl⟩:=q15;refine go 5 fun g9=>?_
 refine go 1 ?_;refine a1A _ he rfl rfl rfl rfl rfl (by simp[Slot.cells,hsl.one];exact⟨rfl,rfl⟩) ?_;refine gS 7 19 (fun h19 p19=>?_) fun h19 p19=>?_
 ·refine go 4 ?_;refine a0z rfl rfl h19 (a0x (d3N I _ _ p hsl) rfl rfl ?_);refine go 6 ?_;exact q_v (congrArg Value.bool (by revert h19;unfold a4Q;cases b5I l k s<;>simp))
 ·refine go 10 ?_;exact q_v (congrArg Value.bool (by revert h19;unfold a4Q;cases b5I l k s<;>simp))
theorem a6W (I:IMap) (x:Ivl) :
    FnV prog 195 #[.agg x.cells.toArray] I (.bool (a2i x)):=by
 refine enter func195 call195 rfl ntmps195 rfl fun w0=>?_;refine go 4 fun g1=>?_
 refine gS 9 6 (fun h6 p6=>?_) fun h6 p6=>?_
 ·refine gS 7 13 (fun h13 p13=>?_) fun h13 p13=>?_
  ·refine go 9 ?_;exact q_v (congrArg Value.bool (by simp only[a2i,h6,h13,bS]))
  ·refine go 9 ?_;exact q_v (congrArg Value.bool (by simp only[a2i,h6,h13,bS]))
 ·refine go 16 ?_;exact q_v (congrArg Value.bool (by simp only[a2i,h6,bS]))
theorem c5r (I:IMap) (v:Value) (l:List Kind) (hv:RdS I v l) (p:Part) (D:Option Addr) (d:Nat) (hD:RdS I (.slice D p.props.length d) p.props) (hs:SmP p) :
    FnV prog 152 #[.agg #[v],.agg (p.cells (.slice D p.props.length d)).toArray] I (.bool (a3U l p)):=by
 have hDA:RdA I D p.props:=(by obtain⟨_,_,e,h,_⟩:=hD;cases e;exact h);have hDl:p.props.length≤d∧d≤9223372036854775807:=(by obtain⟨_,_,e,h,h1,h2⟩:=hD;cases e;exact⟨h1,h2⟩);refine enter func152 call152 rfl ntmps152 rfl fun w0=>?_;refine go 4 fun g2=>?_
 refine go 2 fun g3=>?_
 refine go 9 ?_;refine a2p (a6X I _ l hv p.kind) rfl rfl fun v13 q13=>?_;obtain⟨vs,rfl,ss,rfl,hsl⟩:=q13;refine go 5 fun g5=>?_
 refine go 1 ?_;refine a1A _ he rfl rfl rfl rfl rfl (by simp[Kind.cells,hsl.one];exact⟨rfl,rfl⟩) ?_;refine go 5 ?_;refine a1h (I':=I) (L':=[(2,.pointer (some ⟨g2,0,none⟩)),(3,.pointer (some ⟨g3,0,none⟩)),(46,.bool (a4W l p))]) (H':=[.blk g3 54 (p.cells (.slice D p.props.length d)),.blk g2 24 [v]]) ?_ ?_
 ·refine gS 4 18 (fun h18 p18=>?_) fun h18 p18=>?_
  ·refine go 30 ?_;refine a0a ?_;exact a0h ⟨rfl,rfl,(bB (by simp only[a4W,h18,bS])),trivial⟩ rfl rfl
  ·refine go 3 ?_;refine a0z rfl rfl h18 (a0x (a7w _ _ hs.1) rfl rfl ?_);refine gS 3 24 (fun h24 p24=>?_) fun h24 p24=>?_
   ·refine go 24 ?_;refine a0a ?_;exact a0h ⟨rfl,rfl,(bB (by simp only[a4W,h18,h24,bS])),trivial⟩ rfl rfl
   ·refine gS 5 29 (fun h29 p29=>?_) fun h29 p29=>?_
    ·refine go 19 ?_;refine a0a ?_;exact a0h ⟨rfl,rfl,(bB (by simp only[a4W,h18,h24,h29,bS])),trivial⟩ rfl rfl
    ·refine gS 7 36 (fun h36 p36=>?_) fun h36 p36=>?_
     ·refine go 12 ?_;refine a0a ?_;exact a0h ⟨rfl,rfl,(bB (by simp only[a4W,h18,h24,h29,h36,bS])),trivial⟩ rfl rfl
     ·refine gS 5 41 (fun h41 p41=>?_) fun h41 p41=>?_
      ·refine go 7 ?_;refine a0a ?_;exact a0h ⟨rfl,rfl,(bB (by simp only[a4W,h18,h24,h29,h36,h41,bS])),trivial⟩ rfl rfl
      ·refine go 7 ?_;refine a0a ?_;exact a0h ⟨rfl,rfl,(bB (by simp only[a4W,h18,h24,h29,h36,h41,bS])),trivial⟩ rfl rfl
 ·refine gC 0 (fun h46 p46=>?_) fun h46 p46=>?_
  ·refine go 8 ?_;exact q_v (congrArg Value.bool (by rw[←a2t];simp only[c6P,h46];rfl))
  ·refine go 9 ?_
   refine a0w (α:=Nat) 0 (fun i=>I)
    (fun i=>[(2,.pointer (some ⟨g2,0,none⟩)),(3,.pointer (some ⟨g3,0,none⟩)),(7,.int .i64 ((i:Nat):Int))])
    (fun i=>[.blk g3 54 (p.cells (.slice D p.props.length d)),.blk g2 24 [v]])
    (fun i=>i≤p.props.length∧a2m b2n p.props i=true)
    (fun i=>p.props.length-i) ⟨Nat.zero_le _,rfl⟩ rfl sb rfl ?_
   intro i ⟨hi,hn⟩;refine gC 10 (fun h51 p51=>?_) fun h51 p51=>?_
   ·have hlt:i<p.props.length:=oM;refine go 9 ?_;obtain⟨b57,o57,w57,e57,c57,r57⟩:=RdA.at_ hDA (i:=i) hlt;obtain rfl:=r57;refine go 4 fun g8=>?_
    refine go 5 ?_;refine a1h (I':=I) (L':=[(2,.pointer (some ⟨g2,0,none⟩)),(3,.pointer (some ⟨g3,0,none⟩)),(7,.int .i64 ((i:Nat):Int)),(90,.bool (((!a1W p.props[i].key||decide (((p.props[i].value.size:Nat):Int)<1))||decide ((200:Int)<(p.props[i].value.size:Nat)))||a4k Prp.key (p.props.take i) p.props[i]))]) (H':=[.blk g3 54 (p.cells (.slice D p.props.length d)),.blk g2 24 [v]]) ?_ ?_
    ·refine go 1 ?_;refine dH 0 2 ?_;refine cV (a7w _ _ (hs.2 _ (List.getElem_mem hlt))) ?_;refine dG 3 2 ?_;refine gS 0 63 (fun h63 p63=>?_) fun h63 p63=>?_
     ·refine dG 5 27 ?_;refine go 2 ?_;refine a0a ?_;exact a0h ⟨rfl,rfl,rfl,(bB (by first|(simp only[h51,h63,bS];done)|(simp only[a2n (nm:=Prp.key) h0i hlt,h51,h63,bS];done)|(simp only[a1K (nm:=Prp.key) (l:=p.props) h0i,h51,h63,bS];done))),trivial⟩ rfl rfl
     ·refine dG 5 6 ?_;refine gS 0 69 (fun h69 p69=>?_) fun h69 p69=>?_
      ·refine dG 11 21 ?_;refine go 2 ?_;refine a0a ?_;exact a0h ⟨rfl,rfl,rfl,(bB (by first|(simp only[h51,h63,h69,bS];done)|(simp only[a2n (nm:=Prp.key) h0i hlt,h51,h63,h69,bS];done)|(simp only[a1K (nm:=Prp.key) (l:=p.props) h0i,h51,h63,h69,bS];done))),trivial⟩ rfl rfl
      ·refine dG 11 6 ?_;refine gS 0 75 (fun h75 p75=>?_) fun h75 p75=>?_
       ·refine dG 17 15 ?_;refine go 2 ?_;refine a0a ?_;exact a0h ⟨rfl,rfl,rfl,(bB (by first|(simp only[h51,h63,h69,h75,bS];done)|(simp only[a2n (nm:=Prp.key) h0i hlt,h51,h63,h69,h75,bS];done)|(simp only[a1K (nm:=Prp.key) (l:=p.props) h0i,h51,h63,h69,h75,bS];done))),trivial⟩ rfl rfl
       ·refine dG 17 3 ?_;refine gS 0 78 (fun h78 p78=>?_) fun h78 p78=>?_
        ·have h0i:0<i:=oM;refine dG 20 3 ?_;refine d_t 23 rfl rfl (by kernel_rfl) rfl (fun _ m=>m.keeps (.refl _)) (a2L rfl rfl h78 (OV.cast (u:=.int .i64 ((i-1:Nat):Int)) (a1v rfl rfl ⟨oM,oM⟩) (congrArg (Value.int .i64) oM))) ?_;obtain⟨b83,o83,w83,e83,c83,r83⟩:=RdA.at_ hDA (i:=i-1) oM;obtain rfl:=r83;refine d_t 24 rfl rfl (by kernel_rfl) rfl (fun _ m=>m.keeps (.refl _)) (a2L rfl rfl h78 (a0i he rfl rfl e83 (i-1) oM oM)) ?_;refine dG 25 7 ?_;refine go 2 ?_;refine a0a ?_;exact a0h ⟨rfl,rfl,rfl,(bB (by first|(simp only[h51,h63,h69,h75,h78,bS];done)|(simp only[a2n (nm:=Prp.key) h0i hlt,h51,h63,h69,h75,h78,bS];done)|(simp only[a1K (nm:=Prp.key) (l:=p.props) h0i,h51,h63,h69,h75,h78,bS];done))),trivial⟩ rfl rfl
        ·have h0i:¬0<i:=oM;refine dG 20 12 ?_;refine go 2 ?_;refine a0a ?_;exact a0h ⟨rfl,rfl,rfl,(bB (by first|(simp only[h51,h63,h69,h75,h78,bS];done)|(simp only[a2n (nm:=Prp.key) h0i hlt,h51,h63,h69,h75,h78,bS];done)|(simp only[a1K (nm:=Prp.key) (l:=p.props) h0i,h51,h63,h69,h75,h78,bS];done))),trivial⟩ rfl rfl
    ·refine gC 0 (fun h90 p90=>?_) fun h90 p90=>?_
     ·refine go 12 ?_;exact q_v (congrArg Value.bool (by rw[←a2t];simp only[c6P,h46,a0R hlt (show b2n (p.props.take i) p.props[i]=false by simp only[b2n,h90];rfl),bS]))
     ·refine go 9 ?_;exact a0s (i+1) ⟨oM,a0T hn hlt (by simp only[b2n,h90];rfl)⟩ oM rfl sb rfl
   ·have hAll:a2m b2n p.props p.props.length=true:=(show i=p.props.length from oM)▸hn;refine go 9 ?_;refine o_v rfl (a0J (p.life.km.cells) m0 he rfl rfl rfl) ?_;refine go 1 ?_;refine cV (a6W _ p.life.km) ?_;refine gS 1 95 (fun h95 p95=>?_) fun h95 p95=>?_
    ·refine go 2 ?_;refine a0P (a0z rfl rfl h95 (a0k rfl (a0J (p.life.cycles.cells) m0 he rfl rfl rfl) ?_));refine go 1 ?_;refine a0z rfl rfl h95 (a0x (a6W _ p.life.cycles) rfl rfl ?_);refine gS 2 101 (fun h101 p101=>?_) fun h101 p101=>?_
     ·refine go 2 ?_;refine a0P (a0z rfl rfl h101 (a0k rfl (a0J (p.life.damage.cells) m0 he rfl rfl rfl) ?_));refine go 1 ?_;refine a0z rfl rfl h101 (a0x (a6W _ p.life.damage) rfl rfl ?_);refine go 6 ?_;exact q_v (congrArg Value.bool (by rw[←a2t];simp only[c6P,h46,hAll,h51,h95,h101,bS]))
     ·refine go 10 ?_;exact q_v (congrArg Value.bool (by rw[←a2t];simp only[c6P,h46,hAll,h51,h95,h101,bS]))
    ·refine go 16 ?_;exact q_v (congrArg Value.bool (by rw[←a2t];simp only[c6P,h46,hAll,h51,h95,bS]))
theorem b0d (I:IMap) (v:Value) (l:List Part) (hv:RdS I v l) (s:ByteArray) :
    FnV prog 63 #[.agg #[v],.string s] I (.int .i64 (a5w (fun p:Part=>decide (p.name=s)) l)):=by
 obtain⟨A,c0,rfl,hA,hc,hm⟩:=hv;refine enter func63 call63 rfl ntmps63 rfl fun w0=>?_;refine go 4 fun g2=>?_
 refine go 10 ?_
 refine a0w (α:=Nat) 0 (fun i=>I)
  (fun i=>[(1,.string s),(2,.pointer (some ⟨g2,0,none⟩)),(5,.int .i64 ((i:Nat):Int))])
  (fun i=>[.blk g2 97 [.slice A l.length c0]])
  (fun i=>i≤l.length∧∀j x,j<i→l[j]? = some x→(fun p:Part=>decide (p.name=s)) x=false)
  (fun i=>l.length-i) ⟨Nat.zero_le _,fun j x hj=>absurd hj (Nat.not_lt_zero j)⟩ rfl sb rfl ?_
 intro i ⟨hi,hn⟩;refine gC 10 (fun h10 p10=>?_) fun h10 p10=>?_
 ·have hlt:i<l.length:=oM;refine go 9 ?_;obtain⟨b16,o16,w16,e16,c16,r16⟩:=RdA.at_ hA (i:=i) hlt;obtain⟨q16,rfl,B16,d16,rfl,hB16,hd16,hm16⟩:=r16;refine gC 7 (fun h20 p20=>?_) fun h20 p20=>?_
  ·refine go 13 ?_;exact q_v (congrArg (Value.int .i64) (a3D (p:=(fun p:Part=>decide (p.name=s))) hlt h20 hn).symm)
  ·refine go 9 ?_;exact a0s (i+1) ⟨oM,a3c (p:=(fun p:Part=>decide (p.name=s))) hn hlt h20⟩ oM rfl sb rfl
 ·refine go 12 ?_;exact q_v (congrArg (Value.int .i64) (a4u (p:=(fun p:Part=>decide (p.name=s))) (fun j x hj=>hn j x oM)).symm)
theorem b8U (I:IMap) (vc:Value) (c:List Kind) (hvc:RdS I vc c) (hsc:SmC c) (v:Value) (l:List Part) (hv:RdS I v l) (hsf:SmF l) :
    FnV prog 101 #[.agg #[vc],.agg #[v]] I (.bool (a2Z c l)):=by
 have hv0:=hv;obtain⟨A,c0,rfl,hA,hc,hm⟩:=hv;refine enter func101 call101 rfl ntmps101 rfl fun w0=>?_;refine go 4 fun g2=>?_
 refine go 2 fun g3=>?_
 refine go 5 ?_;refine a1h (I':=I) (L':=[(2,.pointer (some ⟨g2,0,none⟩)),(3,.pointer (some ⟨g3,0,none⟩)),(17,.bool (!a6K c||decide ((20000:Int)<(l.length:Nat))))]) (H':=[.blk g3 97 [.slice A l.length c0],.blk g2 24 [vc]]) ?_ ?_
 ·refine go 3 ?_;refine cV (a8Z _ vc c hvc hsc) ?_;refine gS 2 12 (fun h12 p12=>?_) fun h12 p12=>?_
  ·refine go 7 ?_;exact a0h ⟨rfl,rfl,(bB (by simp only[h12,bS])),trivial⟩ rfl rfl
  ·refine go 7 ?_;exact a0h ⟨rfl,rfl,(bB (by simp only[h12,bS])),trivial⟩ rfl rfl
 ·refine gC 0 (fun h17 p17=>?_) fun h17 p17=>?_
  ·refine go 8 ?_;exact q_v (congrArg Value.bool (by rw[←a5p];simp only[a6Z,h17];rfl))
  ·refine go 9 ?_
   refine a0w (α:=Nat) 0 (fun i=>I)
    (fun i=>[(2,.pointer (some ⟨g2,0,none⟩)),(3,.pointer (some ⟨g3,0,none⟩)),(5,.int .i64 ((i:Nat):Int))])
    (fun i=>[.blk g3 97 [.slice A l.length c0],.blk g2 24 [vc]])
    (fun i=>i≤l.length∧a2m (a6B c l) l i=true)
    (fun i=>l.length-i) ⟨Nat.zero_le _,rfl⟩ rfl sb rfl ?_
   intro i ⟨hi,hn⟩;refine gC 10 (fun h22 p22=>?_) fun h22 p22=>?_
   ·have hlt:i<l.length:=oM;refine go 9 ?_;obtain⟨b28,o28,w28,e28,c28,r28⟩:=RdA.at_ hA (i:=i) hlt;obtain⟨q28,rfl,B28,d28,rfl,hB28,hd28,hm28⟩:=r28;refine go 4 fun g6=>?_
    refine go 6 ?_;refine a1h (I':=I) (L':=[(2,.pointer (some ⟨g2,0,none⟩)),(3,.pointer (some ⟨g3,0,none⟩)),(5,.int .i64 ((i:Nat):Int)),(6,.pointer (some ⟨g6,0,none⟩)),(58,.bool (a6M c (l.take i) l[i]))]) (H':=[.blk g6 54 (l[i].cells (.slice B28 l[i].props.length d28)),.blk g3 97 [.slice A l.length c0],.blk g2 24 [vc]]) ?_ ?_
    ·refine go 1 ?_;refine dH 0 2 ?_;refine cV (c5r _ vc c hvc l[i] B28 d28 ⟨_,_,rfl,hB28,hd28,hm28⟩ (hsf _ (List.getElem_mem hlt))) ?_;refine dG 3 2 ?_;refine gS 0 34 (fun h34 p34=>?_) fun h34 p34=>?_
     ·refine dG 5 24 ?_;refine go 2 ?_;exact a0h ⟨rfl,rfl,rfl,rfl,(bB (by first|(simp only[a6M,a2t,h22,h34,bS];done)|(simp only[a6M,a2t,a2n (nm:=Part.name) h0i hlt,h22,h34,bS];done)|(simp only[a6M,a2t,a1K (nm:=Part.name) (l:=l) h0i,h22,h34,bS];done))),trivial⟩ rfl rfl
     ·refine dG 5 3 ?_;refine gS 0 37 (fun h37 p37=>?_) fun h37 p37=>?_
      ·have h0i:0<i:=oM;refine dG 8 3 ?_;refine d_t 11 rfl rfl (by kernel_rfl) rfl (fun _ m=>m.keeps (.refl _)) (a2L rfl rfl h37 (OV.cast (u:=.int .i64 ((i-1:Nat):Int)) (a1v rfl rfl ⟨oM,oM⟩) (congrArg (Value.int .i64) oM))) ?_;obtain⟨b42,o42,w42,e42,c42,r42⟩:=RdA.at_ hA (i:=i-1) oM;obtain⟨q42,rfl,B42,d42,rfl,hB42,hd42,hm42⟩:=r42;refine d_t 12 rfl rfl (by kernel_rfl) rfl (fun _ m=>m.keeps (.refl _)) (a2L rfl rfl h37 (a0i he rfl rfl e42 (i-1) oM oM)) ?_;refine dG 13 8 ?_;refine gS 0 50 (fun h50 p50=>?_) fun h50 p50=>?_
       ·refine dG 21 8 ?_;refine go 2 ?_;exact a0h ⟨rfl,rfl,rfl,rfl,(bB (by first|(simp only[a6M,a2t,h22,h34,h37,h50,bS];done)|(simp only[a6M,a2t,a2n (nm:=Part.name) h0i hlt,h22,h34,h37,h50,bS];done)|(simp only[a6M,a2t,a1K (nm:=Part.name) (l:=l) h0i,h22,h34,h37,h50,bS];done))),trivial⟩ rfl rfl
       ·refine dG 21 6 ?_;refine d_t 27 rfl rfl (by kernel_rfl) rfl (fun _ m=>m.keeps (.refl _)) (a2L rfl rfl h50 (b0p he rfl rfl)) ?_;refine dG 28 1 ?_;refine go 2 ?_;exact a0h ⟨rfl,rfl,rfl,rfl,(bB (by first|(simp only[a6M,a2t,h22,h34,h37,h50,bS];done)|(simp only[a6M,a2t,a2n (nm:=Part.name) h0i hlt,h22,h34,h37,h50,bS];done)|(simp only[a6M,a2t,a1K (nm:=Part.name) (l:=l) h0i,h22,h34,h37,h50,bS];done))),trivial⟩ rfl rfl
      ·have h0i:¬0<i:=oM;refine dG 8 19 ?_;refine d_t 27 rfl rfl (by kernel_rfl) rfl (fun _ m=>m.keeps (.refl _)) (a2L rfl rfl rfl (b0p he rfl rfl)) ?_;refine dG 28 1 ?_;refine go 2 ?_;exact a0h ⟨rfl,rfl,rfl,rfl,(bB (by first|(simp only[a6M,a2t,h22,h34,h37,bS];done)|(simp only[a6M,a2t,a2n (nm:=Part.name) h0i hlt,h22,h34,h37,bS];done)|(simp only[a6M,a2t,a1K (nm:=Part.name) (l:=l) h0i,h22,h34,h37,bS];done))),trivial⟩ rfl rfl
    ·refine gC 0 (fun h58 p58=>?_) fun h58 p58=>?_
     ·refine go 13 ?_;exact q_v (congrArg Value.bool (by rw[←a5p];simp only[a6Z,h17,a0R (f:=a6B c l) hlt (show a6B c l (l.take i) l[i]=false by simp only[a6B,h58];rfl),bS]))
     ·refine gC 10 (fun h61 p61=>?_) fun h61 p61=>?_
      ·refine go 10 ?_;refine a0a ?_;exact a0s (i+1) ⟨oM,a0T hn hlt (by simp only[a6B,h58,h61];rfl)⟩ oM rfl sb rfl
      ·refine go 8 ?_;refine cV (b0d _ _ l hv0 l[i].into) ?_;refine go 5 ?_;refine a1h (I':=I) (L':=[(2,.pointer (some ⟨g2,0,none⟩)),(3,.pointer (some ⟨g3,0,none⟩)),(5,.int .i64 ((i:Nat):Int)),(6,.pointer (some ⟨g6,0,none⟩)),(94,.bool (a9k c l l[i]))]) (H':=[.blk g6 54 (l[i].cells (.slice B28 l[i].props.length d28)),.blk g3 97 [.slice A l.length c0],.blk g2 24 [vc]]) ?_ ?_
       ·refine go 1 ?_;refine dG 0 3 ?_;refine gS 0 68 (fun h68 p68=>?_) fun h68 p68=>?_
        ·have hF:a0C l l[i].into=none:=((a2h (fun p:Part=>decide (p.name=l[i].into)) l).resolve_right (by rintro⟨k,hk,e,_⟩;omega)).2;refine dG 3 26 ?_;refine go 2 ?_;exact a0h ⟨rfl,rfl,rfl,rfl,(bB (by first|(simp only[a9k,hF,h58,h61,h68,Option.isSome_none,Option.isSome_some,Option.getD_some,bS];done)|(simp only[a9k,hS,h58,h61,h68,bS];done))),trivial⟩ rfl rfl
        ·have hS:(a0C l l[i].into).isSome=true:=(by rw[←a5v];simpa using p68);refine dG 3 4 ?_;refine gS 0 72 (fun h72 p72=>?_) fun h72 p72=>?_
         ·refine dG 7 22 ?_;refine go 2 ?_;exact a0h ⟨rfl,rfl,rfl,rfl,(bB (by first|(simp only[a9k,hF,h58,h61,h68,h72,Option.isSome_none,Option.isSome_some,Option.getD_some,bS];done)|(simp only[a9k,hS,h58,h61,h68,h72,bS];done))),trivial⟩ rfl rfl
         ·refine dG 7 3 ?_;obtain⟨k,hk,ek,hF⟩:=(a2h (fun p:Part=>decide (p.name=l[i].into)) l).resolve_left (fun h=>oM);have hF:a0C l l[i].into=some l[k]:=hF;obtain⟨b76,o76,w76,e76,c76,r76⟩:=RdA.at_ hA (i:=k) hk;obtain⟨q76,rfl,B76,d76,rfl,hB76,hd76,hm76⟩:=r76;refine d_t 10 rfl rfl (by kernel_rfl) rfl (fun _ m=>m.keeps (.refl _)) (a2L rfl rfl h72 (a0i he rfl rfl e76 (k) ek hk)) ?_;refine dG 11 4 ?_;refine gS 0 80 (fun h80 p80=>?_) fun h80 p80=>?_
          ·refine dG 15 14 ?_;refine go 2 ?_;exact a0h ⟨rfl,rfl,rfl,rfl,(bB (by first|(simp only[a9k,hF,h58,h61,h68,h72,h80,Option.isSome_none,Option.isSome_some,Option.getD_some,bS];done)|(simp only[a9k,hS,h58,h61,h68,h72,h80,bS];done))),trivial⟩ rfl rfl
          ·refine dG 15 4 ?_;obtain⟨b85,o85,w85,e85,c85,r85⟩:=RdA.at_ hA (i:=k) hk;obtain⟨q85,rfl,B85,d85,rfl,hB85,hd85,hm85⟩:=r85;refine d_t 19 rfl rfl (by kernel_rfl) rfl (fun _ m=>m.keeps (.refl _)) (a2L rfl rfl h80 (a0i he rfl rfl e85 (k) ek hk)) ?_;refine dH 20 6 ?_;refine a0z rfl rfl h80 (a0x (b1l _ vc c hvc _ _ _) rfl rfl ?_);refine dG 27 2 ?_;refine go 2 ?_;exact a0h ⟨rfl,rfl,rfl,rfl,(bB (by first|(simp only[a9k,hF,h58,h61,h68,h72,h80,Option.isSome_none,Option.isSome_some,Option.getD_some,bS];done)|(simp only[a9k,hS,h58,h61,h68,h72,h80,bS];done))),trivial⟩ rfl rfl
       ·refine gC 0 (fun h94 p94=>?_) fun h94 p94=>?_
        ·refine go 13 ?_;exact q_v (congrArg Value.bool (by rw[←a5p];simp only[a6Z,h17,a0R (f:=a6B c l) hlt (show a6B c l (l.take i) l[i]=false by simp only[a6B,h58,h61,h94];rfl),bS]))
        ·refine go 8 ?_
         refine a0w (α:=Nat) 0 (fun m=>I)
          (fun m=>[(2,.pointer (some ⟨g2,0,none⟩)),(3,.pointer (some ⟨g3,0,none⟩)),(5,.int .i64 ((i:Nat):Int)),(6,.pointer (some ⟨g6,0,none⟩)),(8,.int .i64 ((m:Nat):Int))])
          (fun m=>[.blk g6 54 (l[i].cells (.slice B28 l[i].props.length d28)),.blk g3 97 [.slice A l.length c0],.blk g2 24 [vc]])
          (fun m=>m≤i∧∀j x,j<m→l[j]? = some x→a7S l[i] x=false)
          (fun m=>i-m) ⟨Nat.zero_le _,fun j x hj=>absurd hj (Nat.not_lt_zero j)⟩ rfl sb rfl ?_
         intro m ⟨hmm,hq⟩;refine gC 8 (fun h97 p97=>?_) fun h97 p97=>?_
         ·have hlm:m<l.length:=oM;refine go 5 ?_;refine a1h (I':=I) (L':=[(2,.pointer (some ⟨g2,0,none⟩)),(3,.pointer (some ⟨g3,0,none⟩)),(5,.int .i64 ((i:Nat):Int)),(6,.pointer (some ⟨g6,0,none⟩)),(8,.int .i64 ((m:Nat):Int)),(119,.bool (a7S l[i] l[m]))]) (H':=[.blk g6 54 (l[i].cells (.slice B28 l[i].props.length d28)),.blk g3 97 [.slice A l.length c0],.blk g2 24 [vc]]) ?_ ?_
          ·refine go 1 ?_;refine dG 0 3 ?_;obtain⟨b103,o103,w103,e103,c103,r103⟩:=RdA.at_ hA (i:=m) hlm;obtain⟨q103,rfl,B103,d103,rfl,hB103,hd103,hm103⟩:=r103;refine a0F 3 rfl rfl (by kernel_rfl) rfl (.refl _) rfl (a0i he rfl rfl e103 (m) oM hlm) ?_;refine dG 4 6 ?_;refine gS 0 109 (fun h109 p109=>?_) fun h109 p109=>?_
           ·refine dG 10 3 ?_;obtain⟨b113,o113,w113,e113,c113,r113⟩:=RdA.at_ hA (i:=m) hlm;obtain⟨q113,rfl,B113,d113,rfl,hB113,hd113,hm113⟩:=r113;refine d_t 13 rfl rfl (by kernel_rfl) rfl (fun _ m=>m.keeps (.refl _)) (a2L rfl rfl h109 (a0i he rfl rfl e113 (m) oM hlm)) ?_;refine dG 14 6 ?_;refine go 2 ?_;exact a0h ⟨rfl,rfl,rfl,rfl,rfl,(bB (by simp only[a7S,h97,h109,bS])),trivial⟩ rfl rfl
           ·refine dG 10 10 ?_;refine go 2 ?_;exact a0h ⟨rfl,rfl,rfl,rfl,rfl,(bB (by simp only[a7S,h97,h109,bS])),trivial⟩ rfl rfl
          ·refine gC 0 (fun h119 p119=>?_) fun h119 p119=>?_
           ·refine go 16 ?_;exact q_v (congrArg Value.bool (by rw[←a5p];simp only[a6Z,h17,a0R (f:=a6B c l) hlt (show a6B c l (l.take i) l[i]=false by simp only[a6B,h58,h61,h94,c5I (m:=m) (i:=i) oM hlm h119];rfl),bS]))
           ·refine go 9 ?_;exact a0s (m+1) ⟨oM,a3c hq (show m<l.length from oM) h119⟩ oM rfl sb rfl
         ·refine go 12 ?_;refine a0a ?_;exact a0s (i+1) ⟨oM,a0T hn hlt (by have:=c5H hq (by omega:i≤m);simp only[a6B,h58,h61,h94,this];rfl)⟩ oM rfl sb rfl
   ·refine go 12 ?_;have e:i=l.length:=oM;subst e;exact q_v (congrArg Value.bool (by rw[←a5p];simp only[a6Z,hn,h17];rfl))
end Go.Proofs.YtkndpfncklhhlaaGreat
namespace Go.Proofs.YtkndpfncklhhlaaGreat
open Go Go.Sx Tryz
set_option linter.all false
set_option maxRecDepth 20000
set_option maxHeartbeats 4000000
theorem b3P (I:IMap) (v:Value) (l:List Part) (hv:RdS I v l) (hl:l.length≤1000000) (x:Part) (B:Option Addr) (d:Nat) (hr:Enc.rd I (x.cells (.slice B x.props.length d)) x) :
    FnI prog 154 #[.agg #[v],.agg (x.cells (.slice B x.props.length d)).toArray] I (fun u J=>∃w,u = .agg #[w]∧RdS J w (b2H Part.name x l)):=by
 obtain⟨A,c0,rfl,hA,hc,hm⟩:=hv;refine enter func154 call154 rfl ntmps154 rfl fun w0=>?_;refine go 4 fun g2=>?_
 refine go 2 fun g3=>?_
 refine go 2 fun g4=>?_
 refine go 6 fun g5=>?_
 refine go 4 ?_;refine a0G 54 14 ?_;refine go 10 ?_
 refine a6N ((0:Nat)) (_) ([]) (_) ([]) (fun i v xs b out=>I)
  (fun i v xs b out=>[(2,.pointer (some ⟨g2,0,none⟩)),(3,.pointer (some ⟨g3,0,none⟩)),(4,.pointer (some ⟨g4,0,none⟩)),(5,.pointer (some ⟨g5,0,none⟩)),(6,.bool b),(7,.int .i64 ((i:Nat):Int))])
  (fun i v xs b out=>[.row v 54 14 out.length xs,.blk g5 97 [v],.blk g4 97 [.slice none 0 0],.blk g3 54 (x.cells (.slice B x.props.length d)),.blk g2 97 [.slice A l.length c0]])
  (fun i v xs b out=>i≤l.length∧wF Part.name x (l.take i)=(out,b)∧Flat I xs out)
  (fun i v xs b out=>l.length-i) ⟨Nat.zero_le _,rfl,.nil⟩ rfl sb rfl ?_
 intro i v xs b out ⟨hi,hw,hF⟩;have hol:=d4t hw;refine gC 10 (fun h12 p12=>?_) fun h12 p12=>?_
 ·have hlt:i<l.length:=oM;refine go 7 ?_;refine dG 0 3 ?_;refine gS 0 17 (fun h17 p17=>?_) fun h17 p17=>?_
  ·refine dG 3 3 ?_;obtain⟨b21,o21,w21,e21,c21,r21⟩:=RdA.at_ hA (i:=i) hlt;obtain⟨q21,rfl,B21,d21,rfl,hB21,hd21,hm21⟩:=r21;refine dG 6 7 ?_;refine gC 2 (fun h27 p27=>?_) fun h27 p27=>?_
   ·refine go 7 fun v31=>?_
    refine go 1 ?_;refine a0b ?_;refine a0o he he rfl rfl rfl rfl rfl oM oM rfl fun v32=>?_;refine a5E fun u=>?_;refine go 2 ?_;refine a0c ?_;refine a5A he rfl rfl u rfl ?_;refine go 8 ?_;refine dG 0 3 ?_;obtain⟨b37,o37,w37,e37,c37,r37⟩:=RdA.at_ hA (i:=i) hlt;obtain⟨q37,rfl,B37,d37,rfl,hB37,hd37,hm37⟩:=r37;refine dG 3 6 ?_;refine gC 2 (fun h42 p42=>?_) fun h42 p42=>?_
    ·refine a0b ?_;refine ds2 ?_;refine dG 0 1 ?_;refine dG 2 3 ?_;obtain⟨b48,o48,w48,e48,c48,r48⟩:=RdA.at_ hA (i:=i) hlt;obtain⟨q48,rfl,B48,d48,rfl,hB48,hd48,hm48⟩:=r48;refine dG 5 2 ?_;refine dT2 1 7 ?_ ?_
     ·refine a0k rfl (b0v m1 he rfl rfl) ?_;refine dH 7 0 ?_;refine go 1 fun v50=>?_
      refine dH 8 0 ?_;refine a0b ?_;refine a0o he he rfl rfl rfl rfl rfl oM oM rfl fun v51=>?_;refine a5E fun u=>?_;refine dH 9 1 ?_;refine a0c ?_;refine a5A he rfl rfl u rfl ?_;refine go 10 ?_;refine a0c ?_;refine a0a ?_;refine a0c ?_;refine a0a ?_;refine a0A ?_;refine a0A ?_;refine a0A ?_;refine a0p ?_;refine a0A ?_;exact a1R (i+1) (_) (_) (_) (out++[x]++[l[i]]) ⟨oM,d0n hlt hw h17 h27 h42,(hF.append (.one hr)).append (.one ⟨_,rfl,B48,d48,rfl,hB48,hd48,hm48⟩)⟩ oM rfl sb (by first|rfl|(simp only[List.length_append,List.length_singleton];rfl)|simp only[List.length_append,List.length_singleton])
     ·refine go 1 fun v50=>?_
      refine dH 1 0 ?_;refine a0k rfl (b0v m2 he rfl rfl) ?_;refine dH 8 0 ?_;refine a0b ?_;refine a0o he he rfl rfl rfl rfl rfl oM oM rfl fun v51=>?_;refine a5E fun u=>?_;refine dH 9 1 ?_;refine a0c ?_;refine a5A he rfl rfl u rfl ?_;refine go 10 ?_;refine a0c ?_;refine a0a ?_;refine a0c ?_;refine a0a ?_;refine a0A ?_;refine a0A ?_;refine a0A ?_;refine a0p ?_;refine a0A ?_;exact a1R (i+1) (_) (_) (_) (out++[x]++[l[i]]) ⟨oM,d0n hlt hw h17 h27 h42,(hF.append (.one hr)).append (.one ⟨_,rfl,B48,d48,rfl,hB48,hd48,hm48⟩)⟩ oM rfl sb (by first|rfl|(simp only[List.length_append,List.length_singleton];rfl)|simp only[List.length_append,List.length_singleton])
    ·refine go 9 ?_;refine a0c ?_;refine a0a ?_;refine a0A ?_;refine a0A ?_;refine a0A ?_;refine a0p ?_;refine a0A ?_;exact a1R (i+1) (_) (_) (_) (out++[x]) ⟨oM,d2Y hlt hw h17 h27 h42,hF.append (.one hr)⟩ oM rfl sb (by first|rfl|(simp only[List.length_append,List.length_singleton];rfl)|simp only[List.length_append,List.length_singleton])
   ·refine go 4 ?_;refine dG 0 3 ?_;obtain⟨b37,o37,w37,e37,c37,r37⟩:=RdA.at_ hA (i:=i) hlt;obtain⟨q37,rfl,B37,d37,rfl,hB37,hd37,hm37⟩:=r37;refine dG 3 6 ?_;refine gC 2 (fun h42 p42=>?_) fun h42 p42=>?_
    ·refine a0b ?_;refine a0b ?_;refine ds2 ?_;refine dG 0 1 ?_;refine dG 2 3 ?_;obtain⟨b48,o48,w48,e48,c48,r48⟩:=RdA.at_ hA (i:=i) hlt;obtain⟨q48,rfl,B48,d48,rfl,hB48,hd48,hm48⟩:=r48;refine dG 5 2 ?_;refine dT2 1 7 ?_ ?_
     ·refine a0k rfl (b0v m1 he rfl rfl) ?_;refine dH 7 0 ?_;refine go 1 fun v50=>?_
      refine dH 8 0 ?_;refine a0b ?_;refine a0o he he rfl rfl rfl rfl rfl oM oM rfl fun v51=>?_;refine a5E fun u=>?_;refine dH 9 1 ?_;refine a0c ?_;refine a5A he rfl rfl u rfl ?_;refine go 10 ?_;refine a0c ?_;refine a0a ?_;refine a0A ?_;refine a0A ?_;refine a0A ?_;refine a0p ?_;refine a0A ?_;exact a1R (i+1) (_) (_) (_) (out++[l[i]]) ⟨oM,b9n hlt hw (by rw[h17,h27];rfl) h42,hF.append (.one ⟨_,rfl,B48,d48,rfl,hB48,hd48,hm48⟩)⟩ oM rfl sb (by first|rfl|(simp only[List.length_append,List.length_singleton];rfl)|simp only[List.length_append,List.length_singleton])
     ·refine go 1 fun v50=>?_
      refine dH 1 0 ?_;refine a0k rfl (b0v m2 he rfl rfl) ?_;refine dH 8 0 ?_;refine a0b ?_;refine a0o he he rfl rfl rfl rfl rfl oM oM rfl fun v51=>?_;refine a5E fun u=>?_;refine dH 9 1 ?_;refine a0c ?_;refine a5A he rfl rfl u rfl ?_;refine go 10 ?_;refine a0c ?_;refine a0a ?_;refine a0A ?_;refine a0A ?_;refine a0A ?_;refine a0p ?_;refine a0A ?_;exact a1R (i+1) (_) (_) (_) (out++[l[i]]) ⟨oM,b9n hlt hw (by rw[h17,h27];rfl) h42,hF.append (.one ⟨_,rfl,B48,d48,rfl,hB48,hd48,hm48⟩)⟩ oM rfl sb (by first|rfl|(simp only[List.length_append,List.length_singleton];rfl)|simp only[List.length_append,List.length_singleton])
    ·refine go 9 ?_;exact a1R (i+1) (_) (_) (_) (out) ⟨oM,c6e hlt hw (by rw[h17,h27];rfl) h42,hF⟩ oM rfl sb (by first|rfl|(simp only[List.length_append,List.length_singleton];rfl)|simp only[List.length_append,List.length_singleton])
  ·refine dG 3 10 ?_;refine go 7 ?_;refine dG 0 3 ?_;obtain⟨b37,o37,w37,e37,c37,r37⟩:=RdA.at_ hA (i:=i) hlt;obtain⟨q37,rfl,B37,d37,rfl,hB37,hd37,hm37⟩:=r37;refine dG 3 6 ?_;refine gC 2 (fun h42 p42=>?_) fun h42 p42=>?_
   ·refine a0b ?_;refine a0b ?_;refine ds2 ?_;refine dG 0 1 ?_;refine dG 2 3 ?_;obtain⟨b48,o48,w48,e48,c48,r48⟩:=RdA.at_ hA (i:=i) hlt;obtain⟨q48,rfl,B48,d48,rfl,hB48,hd48,hm48⟩:=r48;refine dG 5 2 ?_;refine dT2 1 7 ?_ ?_
    ·refine a0k rfl (b0v m1 he rfl rfl) ?_;refine dH 7 0 ?_;refine go 1 fun v50=>?_
     refine dH 8 0 ?_;refine a0b ?_;refine a0o he he rfl rfl rfl rfl rfl oM oM rfl fun v51=>?_;refine a5E fun u=>?_;refine dH 9 1 ?_;refine a0c ?_;refine a5A he rfl rfl u rfl ?_;refine go 10 ?_;refine a0c ?_;refine a0a ?_;refine a0A ?_;refine a0A ?_;refine a0A ?_;refine a0p ?_;refine a0A ?_;exact a1R (i+1) (_) (_) (_) (out++[l[i]]) ⟨oM,b9n hlt hw (by rw[h17];rfl) h42,hF.append (.one ⟨_,rfl,B48,d48,rfl,hB48,hd48,hm48⟩)⟩ oM rfl sb (by first|rfl|(simp only[List.length_append,List.length_singleton];rfl)|simp only[List.length_append,List.length_singleton])
    ·refine go 1 fun v50=>?_
     refine dH 1 0 ?_;refine a0k rfl (b0v m2 he rfl rfl) ?_;refine dH 8 0 ?_;refine a0b ?_;refine a0o he he rfl rfl rfl rfl rfl oM oM rfl fun v51=>?_;refine a5E fun u=>?_;refine dH 9 1 ?_;refine a0c ?_;refine a5A he rfl rfl u rfl ?_;refine go 10 ?_;refine a0c ?_;refine a0a ?_;refine a0A ?_;refine a0A ?_;refine a0A ?_;refine a0p ?_;refine a0A ?_;exact a1R (i+1) (_) (_) (_) (out++[l[i]]) ⟨oM,b9n hlt hw (by rw[h17];rfl) h42,hF.append (.one ⟨_,rfl,B48,d48,rfl,hB48,hd48,hm48⟩)⟩ oM rfl sb (by first|rfl|(simp only[List.length_append,List.length_singleton];rfl)|simp only[List.length_append,List.length_singleton])
   ·refine go 9 ?_;exact a1R (i+1) (_) (_) (_) (out) ⟨oM,c6e hlt hw (by rw[h17];rfl) h42,hF⟩ oM rfl sb (by first|rfl|(simp only[List.length_append,List.length_singleton];rfl)|simp only[List.length_append,List.length_singleton])
 ·have e:i=l.length:=oM;subst e;rw[List.take_length]at hw
  refine a5E fun u=>?_;refine gC 12 (fun h54 p54=>?_) fun h54 p54=>?_
  ·refine go 6 fun v58=>?_
   refine go 1 ?_;refine a0b ?_;refine a0o he he rfl rfl rfl rfl rfl oM oM rfl fun v59=>?_;refine a5E fun u=>?_;refine go 2 ?_;refine a0c ?_;refine a5A he rfl rfl u rfl ?_;refine go 6 ?_;refine a0p ?_;refine a1A _ he rfl rfl rfl rfl rfl (c2t u) ?_;refine go 4 ?_;refine a0a ?_;refine a0a ?_;refine a0b ?_;refine a0a ?_;refine a0b ?_;refine a0a ?_;refine a0b ?_;refine a0a ?_;refine a0d (l:=out++[x]) rfl (by simp) (hF.append (.one hr)) fun I9 j9 R9=>?_;exact q_i ⟨_,rfl,by rw[c7k hw h54];exact R9⟩
  ·refine go 6 ?_;refine a0c ?_;refine a1A _ he rfl rfl rfl rfl rfl (c2t u) ?_;refine go 4 ?_;refine a0a ?_;refine a0b ?_;refine a0a ?_;refine a0b ?_;refine a0a ?_;refine a0b ?_;refine a0a ?_;refine a0d (l:=out) rfl rfl hF fun I9 j9 R9=>?_;exact q_i ⟨_,rfl,by rw[c7j hw h54];exact R9⟩
theorem c2l (I:IMap) (v:Value) (l:List Prp) (hv:RdS I v l) (hl:l.length≤1000000) (s t:ByteArray) :
    FnI prog 156 #[v,.string s,.string t] I (fun u J=>RdS J u (b2H Prp.key ⟨s,t⟩ l)):=by
 obtain⟨A,c0,rfl,hA,hc,hm⟩:=hv;refine enter func156 call156 rfl ntmps156 rfl fun w0=>?_;refine go 7 ?_;refine a0G 184 2 ?_;refine go 15 ?_
 refine a6N ((0:Nat)) (_) ([]) (_) ([]) (fun i v xs b out=>I)
  (fun i v xs b out=>[(0,.slice A l.length c0),(1,.string s),(2,.string t),(7,v),(8,.bool b),(9,.int .i64 ((i:Nat):Int))])
  (fun i v xs b out=>[.row v 184 2 out.length xs])
  (fun i v xs b out=>i≤l.length∧wF Prp.key ⟨s,t⟩ (l.take i)=(out,b)∧Flat I xs out)
  (fun i v xs b out=>l.length-i) ⟨Nat.zero_le _,rfl,.nil⟩ rfl sb rfl ?_
 intro i v xs b out ⟨hi,hw,hF⟩;have hol:=d4t hw;refine gC 9 (fun h13 p13=>?_) fun h13 p13=>?_
 ·have hlt:i<l.length:=oM;refine gS 10 18 (fun h18 p18=>?_) fun h18 p18=>?_
  ·refine go 2 ?_;obtain⟨b21,o21,w21,e21,c21,r21⟩:=RdA.at_ hA (i:=i) hlt;obtain rfl:=r21;refine gC 8 (fun h26 p26=>?_) fun h26 p26=>?_
   ·refine go 8 fun v31=>?_
    refine go 1 ?_;refine a0b ?_;refine a0o he he rfl rfl rfl rfl rfl oM oM rfl fun v32=>?_;refine go 11 ?_;obtain⟨b35,o35,w35,e35,c35,r35⟩:=RdA.at_ hA (i:=i) hlt;obtain rfl:=r35;refine gC 7 (fun h39 p39=>?_) fun h39 p39=>?_
    ·refine go 4 ?_;obtain⟨b43,o43,w43,e43,c43,r43⟩:=RdA.at_ hA (i:=i) hlt;obtain rfl:=r43;refine go 4 fun v45=>?_
     refine go 1 ?_;refine a0b ?_;refine a0o he he rfl rfl rfl rfl rfl oM oM rfl fun v46=>?_;refine go 10 ?_;refine a0b ?_;refine a0a ?_;refine a0b ?_;refine a0a ?_;exact a1R (i+1) (_) (_) (_) (out++[⟨s,t⟩]++[l[i]]) ⟨oM,d0n hlt hw h18 h26 h39,(hF.append (.one rfl)).append (.one rfl)⟩ oM rfl sb (by first|rfl|(simp only[List.length_append,List.length_singleton];rfl)|simp only[List.length_append,List.length_singleton])
    ·refine go 9 ?_;refine a0b ?_;refine a0a ?_;exact a1R (i+1) (_) (_) (_) (out++[⟨s,t⟩]) ⟨oM,d2Y hlt hw h18 h26 h39,hF.append (.one rfl)⟩ oM rfl sb (by first|rfl|(simp only[List.length_append,List.length_singleton];rfl)|simp only[List.length_append,List.length_singleton])
   ·refine go 6 ?_;obtain⟨b35,o35,w35,e35,c35,r35⟩:=RdA.at_ hA (i:=i) hlt;obtain rfl:=r35;refine gC 7 (fun h39 p39=>?_) fun h39 p39=>?_
    ·refine go 4 ?_;obtain⟨b43,o43,w43,e43,c43,r43⟩:=RdA.at_ hA (i:=i) hlt;obtain rfl:=r43;refine go 4 fun v45=>?_
     refine go 1 ?_;refine a0b ?_;refine a0o he he rfl rfl rfl rfl rfl oM oM rfl fun v46=>?_;refine go 10 ?_;refine a0b ?_;refine a0a ?_;exact a1R (i+1) (_) (_) (_) (out++[l[i]]) ⟨oM,b9n hlt hw (by rw[h18,h26];rfl) h39,hF.append (.one rfl)⟩ oM rfl sb (by first|rfl|(simp only[List.length_append,List.length_singleton];rfl)|simp only[List.length_append,List.length_singleton])
    ·refine go 9 ?_;exact a1R (i+1) (_) (_) (_) (out) ⟨oM,c6e hlt hw (by rw[h18,h26];rfl) h39,hF⟩ oM rfl sb (by first|rfl|(simp only[List.length_append,List.length_singleton];rfl)|simp only[List.length_append,List.length_singleton])
  ·refine go 17 ?_;obtain⟨b35,o35,w35,e35,c35,r35⟩:=RdA.at_ hA (i:=i) hlt;obtain rfl:=r35;refine gC 7 (fun h39 p39=>?_) fun h39 p39=>?_
   ·refine go 4 ?_;obtain⟨b43,o43,w43,e43,c43,r43⟩:=RdA.at_ hA (i:=i) hlt;obtain rfl:=r43;refine go 4 fun v45=>?_
    refine go 1 ?_;refine a0b ?_;refine a0o he he rfl rfl rfl rfl rfl oM oM rfl fun v46=>?_;refine go 10 ?_;refine a0b ?_;refine a0a ?_;exact a1R (i+1) (_) (_) (_) (out++[l[i]]) ⟨oM,b9n hlt hw (by rw[h18];rfl) h39,hF.append (.one rfl)⟩ oM rfl sb (by first|rfl|(simp only[List.length_append,List.length_singleton];rfl)|simp only[List.length_append,List.length_singleton])
   ·refine go 9 ?_;exact a1R (i+1) (_) (_) (_) (out) ⟨oM,c6e hlt hw (by rw[h18];rfl) h39,hF⟩ oM rfl sb (by first|rfl|(simp only[List.length_append,List.length_singleton];rfl)|simp only[List.length_append,List.length_singleton])
 ·have e:i=l.length:=oM;subst e;rw[List.take_length]at hw
  refine gC 12 (fun h48 p48=>?_) fun h48 p48=>?_
  ·refine go 7 fun v53=>?_
   refine go 1 ?_;refine a0b ?_;refine a0o he he rfl rfl rfl rfl rfl oM oM rfl fun v54=>?_;refine go 11 ?_;refine a0b ?_;refine a0a ?_;refine a0d (l:=out++[(⟨s,t⟩:Prp)]) rfl (by simp) (hF.append (.one rfl)) fun I9 j9 R9=>?_;exact q_i (by rw[c7k hw h48];exact R9)
  ·refine go 10 ?_;refine a0d (l:=out) rfl rfl hF fun I9 j9 R9=>?_;exact q_i (by rw[c7j hw h48];exact R9)
theorem b3O (I:IMap) (v:Value) (l:List Part) (hv:RdS I v l) (s t:ByteArray) :
    FnV prog 155 #[.agg #[v],.string s,.string t] I (.bool (c0S l s t)):=by
 obtain⟨A,c0,rfl,hA,hc,hm⟩:=hv;refine enter func155 call155 rfl ntmps155 rfl fun w0=>?_;refine go 4 fun g3=>?_
 refine go 10 ?_
 refine a0w (α:=Nat) 0 (fun i=>I)
  (fun i=>[(1,.string s),(2,.string t),(3,.pointer (some ⟨g3,0,none⟩)),(7,.int .i64 ((i:Nat):Int))])
  (fun i=>[.blk g3 97 [.slice A l.length c0]])
  (fun i=>i≤l.length∧∀j x,j<i→l[j]? = some x→(fun x:Part=>decide (x.into=s)&&(decide (t=a1b)||decide (x.slot=t))) x=false)
  (fun i=>l.length-i) ⟨Nat.zero_le _,fun j x hj=>absurd hj (Nat.not_lt_zero j)⟩ rfl sb rfl ?_
 intro i ⟨hi,hn⟩;refine gC 10 (fun h12 p12=>?_) fun h12 p12=>?_
 ·have hlt:i<l.length:=oM;refine go 5 ?_;refine a1h (I':=I) (L':=[(1,.string s),(2,.string t),(3,.pointer (some ⟨g3,0,none⟩)),(7,.int .i64 ((i:Nat):Int)),(36,.bool (decide (l[i].into=s)&&(decide (t=a1b)||decide (l[i].slot=t))))]) (H':=[.blk g3 97 [.slice A l.length c0]]) ?_ ?_
  ·refine go 4 ?_;obtain⟨b18,o18,w18,e18,c18,r18⟩:=RdA.at_ hA (i:=i) hlt;obtain⟨q18,rfl,B18,d18,rfl,hB18,hd18,hm18⟩:=r18;refine gS 6 23 (fun h23 p23=>?_) fun h23 p23=>?_
   ·refine gS 3 26 (fun h26 p26=>?_) fun h26 p26=>?_
    ·refine go 12 ?_;exact a0h ⟨rfl,rfl,rfl,rfl,(bB (by simp only[h12,h23,h26,bS])),trivial⟩ rfl rfl
    ·refine go 3 ?_;obtain⟨b30,o30,w30,e30,c30,r30⟩:=RdA.at_ hA (i:=i) hlt;obtain⟨q30,rfl,B30,d30,rfl,hB30,hd30,hm30⟩:=r30;refine go 9 ?_;exact a0h ⟨rfl,rfl,rfl,rfl,(bB (by simp only[h12,h23,h26,bS])),trivial⟩ rfl rfl
   ·refine go 15 ?_;exact a0h ⟨rfl,rfl,rfl,rfl,(bB (by simp only[h12,h23,bS])),trivial⟩ rfl rfl
  ·refine gC 0 (fun h36 p36=>?_) fun h36 p36=>?_
   ·refine go 12 ?_;exact q_v (congrArg Value.bool (List.any_eq_true.2 ⟨l[i],List.getElem_mem hlt,h36⟩).symm)
   ·refine go 9 ?_;exact a0s (i+1) ⟨oM,a3c (p:=(fun x:Part=>decide (x.into=s)&&(decide (t=a1b)||decide (x.slot=t)))) hn hlt h36⟩ oM rfl sb rfl
 ·refine go 12 ?_;exact q_v (congrArg Value.bool (c3E (fun j x hj=>hn j x oM)).symm)
theorem b8W (I:IMap) (v:Value) (l:List Part) (hv:RdS I v l) (e:Evt) (h:e.slot≠a1b):FnV prog 155 #[.agg #[v],.string e.into,.string e.slot] I (.bool (a0S l e)):=by
 have:=b3O I v l hv e.into e.slot
 rwa[c0T l e h]at this
theorem b8V (I:IMap) (v:Value) (l:List Part) (hv:RdS I v l) (s:ByteArray):FnV prog 155 #[.agg #[v],.string s,.string ⟨#[]⟩] I (.bool (a1f l s)):=by
 have:=b3O I v l hv s a1b
 rwa[c4s l s]at this
theorem c2m (I:IMap) (vc:Value) (c:List Kind) (hvc:RdS I vc c) (hsc:SmC c) (v:Value) (l:List Part) (hv:RdS I v l) (hsf:SmF l) (e:Evt) (hse:SmE e) (hV:a2Z c l=true) (hE:a1t e=true) :
    FnI prog 102 #[.agg #[vc],.agg #[v],.agg e.cells.toArray] I (fun u J=>StIs J (a0f c l e) u):=by
 have hA0:(!a2Z c l || !a1t e)=false:=by rw[hV,hE];rfl
 obtain⟨hsrt,hlen⟩:=a8h hV;have hl6:l.length≤1000000:=oM;have hv0:=hv;obtain⟨A,c0,rfl,hA,hc,hm⟩:=hv;refine enter func102 call102 rfl ntmps102 rfl fun w0=>?_;refine go 4 fun g3=>?_
 refine go 2 fun g4=>?_
 refine go 2 fun g5=>?_
 refine go 2 fun g6=>?_
 refine go 9 ?_;refine cV (b0d _ _ l hv0 e.part) ?_;refine gC 11 (fun h22 p22=>?_) fun h22 p22=>?_
 ·refine go 6 ?_;refine a2p (a6X _ vc c hvc e.kind) rfl rfl fun v27 q27=>?_;obtain⟨vs13,rfl,s13,rfl,hs13⟩:=q27;refine go 5 fun g9=>?_
  refine go 1 ?_;refine a1A _ he rfl rfl rfl rfl rfl (Enc.one (α:=Kind) (I:=I) (x:=(a2D c e.kind).getD a4Y) ⟨s13,rfl,hs13⟩) ?_;refine gC 10 (fun h31 p31=>?_) fun h31 p31=>?_
  ·have hS1:(a0C l e.part).isSome=true:=(by rw[←a5v];exact h31);refine go 4 ?_;refine a0b ?_;refine go 8 ?_;exact q_i (StIs.fail (by simp only[a0f,hA0,p22,a2s,hS1,Bool.true_eq_false,decide_true,decide_false,Int.reduceEq,reduceIte,if_true,if_false,Bool.false_eq_true,not_true,not_false_eq_true,bS]))
  ·have hS1:(a0C l e.part).isSome=false:=(by rw[←a5v];exact h31);refine gC 9 (fun h34 p34=>?_) fun h34 p34=>?_
   ·refine go 4 ?_;refine a0b ?_;refine go 8 ?_;exact q_i (StIs.fail (by simp only[a0f,hA0,p22,a2s,hS1,p34,Bool.true_eq_false,decide_true,decide_false,Int.reduceEq,reduceIte,if_true,if_false,Bool.false_eq_true,not_true,not_false_eq_true,bS]))
   ·refine gC 11 (fun h39 p39=>?_) fun h39 p39=>?_
    ·have hL:((l.length:Nat):Int)=20000:=oM;refine go 4 ?_;refine a0b ?_;refine go 8 ?_;exact q_i (StIs.fail (by simp only[a0f,hA0,p22,a2s,hS1,p34,hL,Bool.true_eq_false,decide_true,decide_false,Int.reduceEq,reduceIte,if_true,if_false,Bool.false_eq_true,not_true,not_false_eq_true,bS]))
    ·have hL:¬((l.length:Nat):Int)=20000:=oM;refine go 15 ?_;refine a0D (b3P _ _ l hv0 hl6 (c4N e) none 0 ⟨_,rfl,RdS.nil'⟩) rfl rfl fun v51 I51 j51 q51=>?_;obtain⟨w51,rfl,hw51⟩:=q51;refine go 1 ?_;refine a0b ?_;refine a1A _ he rfl rfl rfl rfl rfl (by simp[hw51.one]) ?_;refine go 6 ?_;rw[b2I (b3f hsrt)]at hw51
     exact q_i (StIs.put (by simp only[a0f,hA0,p22,a2s,hS1,p34,hL,Bool.true_eq_false,decide_true,decide_false,Int.reduceEq,reduceIte,if_true,if_false,Bool.false_eq_true,not_true,not_false_eq_true,bS]) hw51)
 ·refine go 9 ?_;refine a1h (I':=I) (L':=[(3,.pointer (some ⟨g3,0,none⟩)),(4,.pointer (some ⟨g4,0,none⟩)),(5,.pointer (some ⟨g5,0,none⟩)),(6,.pointer (some ⟨g6,0,none⟩)),(8,.int .i64 (a5w (fun p:Part=>decide (p.name=e.part)) l)),(11,.int .i64 (a5w (fun p:Part=>decide (p.name=(b3D e))) l))]) (H':=[.blk g6 97 [.slice none 0 0],.blk g5 72 e.cells,.blk g4 97 [.slice A l.length c0],.blk g3 24 [vc]]) ?_ ?_
  ·refine gC 7 (fun h55 p55=>?_) fun h55 p55=>?_
   ·refine go 5 ?_;refine cV (b0d _ _ l hv0 e.into) ?_;refine go 3 ?_;exact a0h ⟨rfl,rfl,rfl,rfl,rfl,(congrArg (fun s=>some (Value.int .i64 (a5w (fun p:Part=>decide (p.name=s)) l))) (by first|exact (if_pos p55).symm|exact (if_neg p55).symm)),trivial⟩ rfl rfl
   ·refine go 2 ?_;exact a0h ⟨rfl,rfl,rfl,rfl,rfl,(congrArg (fun s=>some (Value.int .i64 (a5w (fun p:Part=>decide (p.name=s)) l))) (by first|exact (if_pos p55).symm|exact (if_neg p55).symm)),trivial⟩ rfl rfl
  ·refine gS 6 62 (fun h62 p62=>?_) fun h62 p62=>?_
   ·have hS1:(a0C l e.part).isSome=false:=(by rw[←a5v];simpa using p62);refine go 17 ?_;exact q_i (StIs.fail (by simp only[a0f,hA0,p22,a0q,hS1,Bool.true_eq_false,decide_true,decide_false,Int.reduceEq,reduceIte,if_true,if_false,Bool.false_eq_true,not_true,not_false_eq_true,bS]))
   ·have hS1:(a0C l e.part).isSome=true:=(by rw[←a5v];simpa using p62);refine gC 5 (fun h65 p65=>?_) fun h65 p65=>?_
    ·have hO:(a5g l e).isSome=false:=(by rw[a9V,←a5v];simpa using p65);refine go 11 ?_;exact q_i (StIs.fail (by simp only[a0f,hA0,p22,a0q,hS1,hO,Bool.true_eq_false,decide_true,decide_false,Int.reduceEq,reduceIte,if_true,if_false,Bool.false_eq_true,not_true,not_false_eq_true,bS]))
    ·have hO:(a5g l e).isSome=true:=(by rw[a9V,←a5v];simpa using p65);refine go 7 ?_;obtain⟨i1,hi1,ei1,hF1⟩:=(a2h (fun p:Part=>decide (p.name=e.part)) l).resolve_left (fun h=>oM);have hP:a1V l e=l[i1]:=by rw[a1V,show a0C l e.part=_ from hF1];rfl
     have hmem:a1V l e∈l:=by rw[hP];exact List.getElem_mem hi1
     obtain⟨b70,o70,w70,e70,c70,r70⟩:=RdA.at_ hA (i:=i1) hi1;rw[←hP]at r70
     obtain⟨s12,rfl,hs12⟩:=r70;refine o_v rfl (a0i he rfl rfl e70 (i1) ei1 hi1) ?_;refine go 3 fun g12=>?_
     refine go 1 ?_;refine a1A _ he rfl rfl rfl rfl rfl (Enc.one (α:=Part) (I:=I) (x:=a1V l e) ⟨s12,rfl,hs12⟩) ?_;refine go 7 ?_;obtain⟨i2,hi2,ei2,hF2⟩:=(a2h (fun p:Part=>decide (p.name=b3D e)) l).resolve_left (fun h=>oM);have hQ:a5h l e=l[i2]:=by rw[a5h,a9V,show a0C l (b3D e)=_ from hF2];rfl
     obtain⟨b75,o75,w75,e75,c75,r75⟩:=RdA.at_ hA (i:=i2) hi2;rw[←hQ]at r75
     obtain⟨s13,rfl,hs13⟩:=r75;refine o_v rfl (a0i he rfl rfl e75 (i2) ei2 hi2) ?_;refine go 3 fun g13=>?_
     refine go 1 ?_;refine a1A _ he rfl rfl rfl rfl rfl (Enc.one (α:=Part) (I:=I) (x:=a5h l e) ⟨s13,rfl,hs13⟩) ?_;refine gS 8 79 (fun h79 p79=>?_) fun h79 p79=>?_
     ·refine go 10 ?_;refine a0c ?_;refine go 7 ?_;exact q_i (StIs.fail (by simp only[a0f,hA0,p22,a0q,hS1,hO,h62,h65,h79,Bool.true_eq_false,decide_true,decide_false,Int.reduceEq,reduceIte,if_true,if_false,Bool.false_eq_true,not_true,not_false_eq_true,bS]))
     ·refine gC 5 (fun h82 p82=>?_) fun h82 p82=>?_
      ·refine go 4 ?_;refine a0c ?_;refine go 7 ?_;exact q_i (StIs.fail (by simp only[a0f,hA0,p22,a0q,hS1,hO,h62,h65,h79,h82,Bool.true_eq_false,decide_true,decide_false,Int.reduceEq,reduceIte,if_true,if_false,Bool.false_eq_true,not_true,not_false_eq_true,bS]))
      ·refine go 8 ?_;refine a2p (a6X _ vc c hvc (a1V l e).kind) rfl rfl fun v88 q88=>?_;obtain⟨vs14,rfl,s14,rfl,hs14⟩:=q88;refine go 5 fun g14=>?_
       refine go 1 ?_;refine a1A _ he rfl rfl rfl rfl rfl (Enc.one (α:=Kind) (I:=I) (x:=a2F c l e) ⟨s14,rfl,hs14⟩) ?_;refine go 4 ?_;refine b4y (Ix:=(fun J p2 s2=>J)) (Lx:=(fun J p2 s2=>[(4,.pointer (some ⟨g4,0,none⟩)),(6,.pointer (some ⟨g6,0,none⟩)),(12,.pointer (some ⟨g12,0,none⟩))])) (Hx:=(fun J p2 s2=>[.blk g12 54 (p2.cells s2),.blk g6 97 [.slice none 0 0],.blk g4 97 [.slice A l.length c0]])) (p:=(fun J p2 s2=>ILe I J∧RdS J s2 p2.props∧a0f c l e=b7d l p2)) ?_ ?_
       ·refine gC 13 (fun h93 p93=>?_) fun h93 p93=>?_
        ·have hsl:=c4l hE p93;refine gS 6 97 (fun h97 p97=>?_) fun h97 p97=>?_
         ·refine go 17 ?_;refine a0p ?_;refine go 9 ?_;exact q_i (StIs.fail (by simp only[a0f,hA0,p22,a0q,hS1,hO,h82,a0X,a0L,a0m,a0H,a0B,a0r,a2F,a2o,p22,p62,p65,p79,p82,p93,p97,h62,h65,h79,h82,h93,h97,Bool.true_eq_false,decide_true,decide_false,Int.reduceEq,reduceIte,if_true,if_false,Bool.false_eq_true,not_true,not_false_eq_true,bS]))
         ·refine go 8 ?_;refine a0z rfl rfl h97 (a0x (b1l _ vc c hvc (a5h l e).kind e.slot (a1V l e).kind) rfl rfl ?_);refine gC 4 (fun h107 p107=>?_) fun h107 p107=>?_
          ·refine go 4 ?_;refine a0p ?_;refine go 9 ?_;exact q_i (StIs.fail (by simp only[a0f,hA0,p22,a0q,hS1,hO,h82,a0X,a0L,a0m,a0H,a0B,a0r,a2F,a2o,p22,p62,p65,p79,p82,p93,p97,p107,h62,h65,h79,h82,h93,h97,h107,Bool.true_eq_false,decide_true,decide_false,Int.reduceEq,reduceIte,if_true,if_false,Bool.false_eq_true,not_true,not_false_eq_true,bS]))
          ·refine gC 10 (fun h111 p111=>?_) fun h111 p111=>?_
           ·refine go 4 ?_;refine a0p ?_;refine go 9 ?_;exact q_i (StIs.fail (by simp only[a0f,hA0,p22,a0q,hS1,hO,h82,a0X,a0L,a0m,a0H,a0B,a0r,a2F,a2o,p22,p62,p65,p79,p82,p93,p97,p107,p111,h62,h65,h79,h82,h93,h97,h107,h111,Bool.true_eq_false,decide_true,decide_false,Int.reduceEq,reduceIte,if_true,if_false,Bool.false_eq_true,not_true,not_false_eq_true,bS]))
           ·refine go 11 ?_;refine cV (b8W _ _ l hv0 e hsl) ?_;refine gC 2 (fun h118 p118=>?_) fun h118 p118=>?_
            ·refine go 4 ?_;refine a0p ?_;refine go 9 ?_;exact q_i (StIs.fail (by simp only[a0f,hA0,p22,a0q,hS1,hO,h82,a0X,a0L,a0m,a0H,a0B,a0r,a2F,a2o,p22,p62,p65,p79,p82,p93,p97,p107,p111,p118,h62,h65,h79,h82,h93,h97,h107,h111,h118,Bool.true_eq_false,decide_true,decide_false,Int.reduceEq,reduceIte,if_true,if_false,Bool.false_eq_true,not_true,not_false_eq_true,bS]))
            ·refine go 8 ?_;refine a0c ?_;refine go 12 ?_;refine a0b ?_;refine a0a ?_;refine a0b ?_;refine a0a ?_;refine a0c ?_;refine a0a ?_;refine a0p ?_;refine a0a ?_;exact a2S (_) ({ a1V l e with into:=e.into,slot:=e.slot }) (_) ⟨ILe.refl _,hs12,by simp only[a0f,hA0,p22,a0q,hS1,hO,h82,a0X,a0L,a0m,a0H,a0B,a0r,a2F,a2o,a1g,p22,p62,p65,p79,p82,p93,p97,p107,p111,p118,h62,h65,h79,h82,h93,h97,h107,h111,h118,Bool.true_eq_false,decide_true,decide_false,Int.reduceEq,reduceIte,if_true,if_false,Bool.false_eq_true,not_true,not_false_eq_true,bS]⟩ sb rfl rfl
        ·refine gC 6 (fun h126 p126=>?_) fun h126 p126=>?_
         ·refine gC 8 (fun h130 p130=>?_) fun h130 p130=>?_
          ·refine go 4 ?_;refine a0p ?_;refine go 9 ?_;exact q_i (StIs.fail (by simp only[a0f,hA0,p22,a0q,hS1,hO,h82,a0X,a0L,a0m,a0H,a0B,a0r,a2F,a2o,p22,p62,p65,p79,p82,p93,p126,p130,h62,h65,h79,h82,h93,h126,h130,Bool.true_eq_false,decide_true,decide_false,Int.reduceEq,reduceIte,if_true,if_false,Bool.false_eq_true,not_true,not_false_eq_true,bS]))
          ·refine go 6 ?_;refine a0c ?_;refine go 10 ?_;refine a0b ?_;refine a0a ?_;refine a0b ?_;refine a0a ?_;refine a0c ?_;refine a0a ?_;refine a0p ?_;refine a0a ?_;exact a2S (_) ({ a1V l e with into:=a1b,slot:=a1b }) (_) ⟨ILe.refl _,hs12,by simp only[a0f,hA0,p22,a0q,hS1,hO,h82,a0X,a0L,a0m,a0H,a0B,a0r,a2F,a2o,a1g,p22,p62,p65,p79,p82,p93,p126,p130,h62,h65,h79,h82,h93,h126,h130,Bool.true_eq_false,decide_true,decide_false,Int.reduceEq,reduceIte,if_true,if_false,Bool.false_eq_true,not_true,not_false_eq_true,bS]⟩ sb rfl rfl
         ·refine gC 6 (fun h134 p134=>?_) fun h134 p134=>?_
          ·refine gC 7 (fun h138 p138=>?_) fun h138 p138=>?_
           ·refine go 4 ?_;refine a0p ?_;refine go 8 ?_;exact q_i (StIs.fail (by simp only[a0f,hA0,p22,a0q,hS1,hO,h82,a0X,a0L,a0m,a0H,a0B,a0r,a2F,a2o,p22,p62,p65,p79,p82,p93,p126,p134,p138,h62,h65,h79,h82,h93,h126,h134,h138,Bool.true_eq_false,decide_true,decide_false,Int.reduceEq,reduceIte,if_true,if_false,Bool.false_eq_true,not_true,not_false_eq_true,bS]))
           ·refine go 3 ?_;refine a0a ?_;refine a0a ?_;refine a0c ?_;refine a0a ?_;refine a0p ?_;refine a0a ?_;exact a2S (_) (a1V l e) (_) ⟨ILe.refl _,hs12,by simp only[a0f,hA0,p22,a0q,hS1,hO,h82,a0X,a0L,a0m,a0H,a0B,a0r,a2F,a2o,a1g,p22,p62,p65,p79,p82,p93,p126,p134,p138,h62,h65,h79,h82,h93,h126,h134,h138,Bool.true_eq_false,decide_true,decide_false,Int.reduceEq,reduceIte,if_true,if_false,Bool.false_eq_true,not_true,not_false_eq_true,bS]⟩ sb rfl rfl
          ·refine gC 6 (fun h140 p140=>?_) fun h140 p140=>?_
           ·refine go 6 ?_;refine o_v rfl (a2a rfl rfl) ?_;refine go 2 ?_;refine a0c ?_;refine go 11 ?_;refine a0b ?_;refine a0a ?_;refine a0b ?_;refine a0a ?_;refine a0c ?_;refine a0a ?_;refine a0p ?_;refine a0a ?_;exact a2S (_) (a1g e (a1V l e)) (_) ⟨ILe.refl _,hs12,by simp only[a0f,hA0,p22,a0q,hS1,hO,h82,a0X,a0L,a0m,a0H,a0B,a0r,a2F,a2o,a1g,p22,p62,p65,p79,p82,p93,p126,p134,p140,h62,h65,h79,h82,h93,h126,h134,h140,Bool.true_eq_false,decide_true,decide_false,Int.reduceEq,reduceIte,if_true,if_false,Bool.false_eq_true,not_true,not_false_eq_true,bS]⟩ sb rfl rfl
           ·refine gC 6 (fun h150 p150=>?_) fun h150 p150=>?_
            ·refine go 9 ?_;refine a0D (c2l _ s12 (a1V l e).props hs12 (by have:=(a5G hV hmem).2;omega) e.key e.value) rfl rfl fun v158 I158 j158 q158=>?_;have R158:RdS I158 v158 (a4M Prp.key (a1V l e).props ⟨e.key,e.value⟩):=b2I (nm:=Prp.key) (x:=⟨e.key,e.value⟩) (b3f (a5G hV hmem).1)▸q158;obtain⟨B158,d158,rfl,h158⟩:=R158;refine go 2 ?_;refine a0c ?_;refine gC 11 (fun h163 p163=>?_) fun h163 p163=>?_
             ·refine go 4 ?_;refine a0p ?_;refine go 8 ?_;exact q_i (StIs.fail (by simp only[a0f,hA0,p22,a0q,hS1,hO,h82,a0X,a0L,a0m,a0H,a0B,a0r,a2F,a2o,p22,p62,p65,p79,p82,p93,p126,p134,p140,p150,p163,h62,h65,h79,h82,h93,h126,h134,h140,h150,h163,Bool.true_eq_false,decide_true,decide_false,Int.reduceEq,reduceIte,if_true,if_false,Bool.false_eq_true,not_true,not_false_eq_true,bS]))
             ·refine go 3 ?_;refine a0b ?_;refine a0a ?_;refine a0b ?_;refine a0a ?_;refine a0c ?_;refine a0a ?_;refine a0p ?_;refine a0a ?_;exact a2S (_) (a2o e (a1V l e)) (_) ⟨j158,⟨B158,d158,rfl,h158⟩,by simp only[a0f,hA0,p22,a0q,hS1,hO,h82,a0X,a0L,a0m,a0H,a0B,a0r,a2F,a2o,a1g,p22,p62,p65,p79,p82,p93,p126,p134,p140,p150,p163,h62,h65,h79,h82,h93,h126,h134,h140,h150,h163,Bool.true_eq_false,decide_true,decide_false,Int.reduceEq,reduceIte,if_true,if_false,Bool.false_eq_true,not_true,not_false_eq_true,bS]⟩ sb rfl rfl
            ·refine gC 6 (fun h165 p165=>?_) fun h165 p165=>?_
             ·refine gS 7 170 (fun h170 p170=>?_) fun h170 p170=>?_
              ·refine go 12 ?_;refine a0p ?_;refine go 9 ?_;exact q_i (StIs.fail (by simp only[a0f,hA0,p22,a0q,hS1,hO,h82,a0X,a0L,a0m,a0H,a0B,a0r,a2F,a2o,p22,p62,p65,p79,p82,p93,p126,p134,p140,p150,p165,p170,h62,h65,h79,h82,h93,h126,h134,h140,h150,h165,h170,Bool.true_eq_false,decide_true,decide_false,Int.reduceEq,reduceIte,if_true,if_false,Bool.false_eq_true,not_true,not_false_eq_true,bS]))
              ·refine go 4 ?_;refine a0z rfl rfl h170 (a0x (b8V _ _ l hv0 (a1V l e).name) rfl rfl ?_);refine gC 3 (fun h175 p175=>?_) fun h175 p175=>?_
               ·refine go 4 ?_;refine a0p ?_;refine go 9 ?_;exact q_i (StIs.fail (by simp only[a0f,hA0,p22,a0q,hS1,hO,h82,a0X,a0L,a0m,a0H,a0B,a0r,a2F,a2o,p22,p62,p65,p79,p82,p93,p126,p134,p140,p150,p165,p170,p175,h62,h65,h79,h82,h93,h126,h134,h140,h150,h165,h170,h175,Bool.true_eq_false,decide_true,decide_false,Int.reduceEq,reduceIte,if_true,if_false,Bool.false_eq_true,not_true,not_false_eq_true,bS]))
               ·refine go 5 ?_;refine a0c ?_;refine go 4 ?_;refine a0b ?_;refine a0a ?_;refine a0b ?_;refine a0a ?_;refine a0c ?_;refine a0a ?_;refine a0p ?_;refine a0a ?_;exact a2S (_) ({ a1V l e with scrapped:=true }) (_) ⟨ILe.refl _,hs12,by simp only[a0f,hA0,p22,a0q,hS1,hO,h82,a0X,a0L,a0m,a0H,a0B,a0r,a2F,a2o,a1g,p22,p62,p65,p79,p82,p93,p126,p134,p140,p150,p165,p170,p175,h62,h65,h79,h82,h93,h126,h134,h140,h150,h165,h170,h175,Bool.true_eq_false,decide_true,decide_false,Int.reduceEq,reduceIte,if_true,if_false,Bool.false_eq_true,not_true,not_false_eq_true,bS]⟩ sb rfl rfl
             ·refine go 3 ?_;refine a0a ?_;refine a0a ?_;refine a0c ?_;refine a0a ?_;refine a0p ?_;refine a0a ?_;exact a2S (_) (a1V l e) (_) ⟨ILe.refl _,hs12,by simp only[a0f,hA0,p22,a0q,hS1,hO,h82,a0X,a0L,a0m,a0H,a0B,a0r,a2F,a2o,a1g,p22,p62,p65,p79,p82,p93,p126,p134,p140,p150,p165,h62,h65,h79,h82,h93,h126,h134,h140,h150,h165,Bool.true_eq_false,decide_true,decide_false,Int.reduceEq,reduceIte,if_true,if_false,Bool.false_eq_true,not_true,not_false_eq_true,bS]⟩ sb rfl rfl
       ·rintro J p2 s2 ⟨hJ,⟨B2,d2,rfl,hB2⟩,hA2⟩;refine go 5 ?_;refine a0D (b3P _ _ l (hv0.le hJ) hl6 p2 B2 d2 ⟨_,rfl,B2,d2,rfl,hB2⟩) rfl rfl fun v180 I180 j180 q180=>?_;obtain⟨w180,rfl,hw180⟩:=q180;refine go 1 ?_;refine a0b ?_;refine a1A _ he rfl rfl rfl rfl rfl (by simp[hw180.one]) ?_;refine go 5 ?_;rw[b2I (b3f hsrt)]at hw180
        exact q_i (StIs.put hA2 hw180)
theorem a6v (I:IMap) (vc:Value) (c:List Kind) (hvc:RdS I vc c) (hsc:SmC c) (v:Value) (l:List Part) (hv:RdS I v l) (hsf:SmF l) (e:Evt) (hse:SmE e) :
    FnI prog 61 #[.agg #[vc],.agg #[v],.agg e.cells.toArray] I (fun u J=>StIs J (a0f c l e) u):=by
 refine enter func61 call61 rfl ntmps61 rfl fun w0=>?_;refine go 4 fun g3=>?_
 refine go 2 fun g4=>?_
 refine go 2 fun g5=>?_
 refine go 2 fun g6=>?_
 refine go 5 ?_;refine a1h (I':=I) (L':=[(3,.pointer (some ⟨g3,0,none⟩)),(4,.pointer (some ⟨g4,0,none⟩)),(5,.pointer (some ⟨g5,0,none⟩)),(6,.pointer (some ⟨g6,0,none⟩)),(16,.bool (!a2Z c l || !a1t e))]) (H':=[.blk g6 97 [.slice none 0 0],.blk g5 72 e.cells,.blk g4 97 [v],.blk g3 24 [vc]]) ?_ ?_
 ·refine go 4 ?_;refine cV (b8U _ vc c hvc hsc _ l hv hsf) ?_;refine gS 2 12 (fun h12 p12=>?_) fun h12 p12=>?_
  ·refine go 6 ?_;exact a0h ⟨rfl,rfl,rfl,rfl,(bB (by simp only[h12,bS])),trivial⟩ rfl rfl
  ·refine go 2 ?_;refine a0z rfl rfl h12 (a0x (a8a _ e hse) rfl rfl ?_);refine go 4 ?_;exact a0h ⟨rfl,rfl,rfl,rfl,(bB (by simp only[h12,bS])),trivial⟩ rfl rfl
 ·refine gC 0 (fun h16 p16=>?_) fun h16 p16=>?_
  ·refine go 11 ?_;exact q_i (StIs.fail (by simp only[a0f,h16,if_true]))
  ·have hVE:a2Z c l=true∧a1t e=true:=by revert h16;simp
   refine go 8 ?_;refine a0D (c2m _ vc c hvc hsc _ l hv hsf e hse hVE.1 hVE.2) rfl rfl fun v21 I21 j21 q21=>?_;obtain⟨w21,rfl,hw21⟩:=q21;refine go 3 ?_;refine a1A _ he rfl rfl rfl rfl rfl (by simp[hw21.one]) ?_;refine go 5 ?_;exact q_i ⟨w21,rfl,hw21⟩
theorem c9k (I:IMap) (v:Value) (l:List Evt) (hv:RdS I v l) (hl:l.length≤1000000) (day:Int) :
    FnI prog 60 #[v,.int .i64 day] I (fun u J=>RdS J u (l.filter fun e=>!decide (e.day>day))):=by
 obtain⟨A,c0,rfl,hA,hc,hm⟩:=hv;refine enter func60 call60 rfl ntmps60 rfl fun w0=>?_;refine go 7 ?_;refine a0G 72 14 ?_;refine go 10 ?_
 refine a2C ((0:Nat)) (_) ([]) ([]) (fun i v xs out=>I)
  (fun i v xs out=>[(0,.slice A l.length c0),(1,.int .i64 day),(5,v),(6,.int .i64 ((i:Nat):Int))])
  (fun i v xs out=>[.row v 72 14 out.length xs])
  (fun i v xs out=>i≤l.length∧(l.take i).filter (fun e:Evt=>!decide (e.day>day))=out∧Flat I xs out)
  (fun i v xs out=>l.length-i) ⟨Nat.zero_le _,rfl,.nil⟩ rfl sb rfl ?_
 intro i v xs out ⟨hi,hw,hF⟩;have hol:out.length≤i:=by rw[←hw];exact Nat.le_trans (List.length_filter_le _ _) (by rw[List.length_take];omega)
 refine gC 9 (fun h10 p10=>?_) fun h10 p10=>?_
 ·have hlt:i<l.length:=oM;refine go 8 ?_;obtain⟨b15,o15,w15,e15,c15,r15⟩:=RdA.at_ hA (i:=i) hlt;obtain rfl:=r15;refine gC 7 (fun h19 p19=>?_) fun h19 p19=>?_
  ·refine go 4 ?_;obtain⟨b23,o23,w23,e23,c23,r23⟩:=RdA.at_ hA (i:=i) hlt;obtain rfl:=r23;refine go 4 fun v25=>?_
   refine go 1 ?_;refine a0b ?_;refine a0o he he rfl rfl rfl rfl rfl oM oM rfl fun v26=>?_;refine go 10 ?_;refine a0b ?_;refine a0a ?_;exact a1k (i+1) (_) (_) (out++[l[i]]) ⟨oM,by rw[b8h (f:=(fun e:Evt=>!decide (e.day>day))) hlt (by simpa using p19),hw],hF.append (.one rfl)⟩ oM rfl sb (by first|rfl|(simp only[List.length_append,List.length_singleton];rfl)|simp only[List.length_append,List.length_singleton])
  ·refine go 9 ?_;exact a1k (i+1) (_) (_) (out) ⟨oM,by rw[c0v (f:=(fun e:Evt=>!decide (e.day>day))) hlt (by simpa using p19),hw],hF⟩ oM rfl sb (by first|rfl|(simp only[List.length_append,List.length_singleton];rfl)|simp only[List.length_append,List.length_singleton])
 ·refine go 13 ?_;have e:i=l.length:=oM;subst e;rw[List.take_length]at hw
  subst hw;refine a0d (l:=l.filter (fun e:Evt=>!decide (e.day>day))) rfl rfl hF fun I9 j9 R9=>?_;exact q_i R9
theorem b3Q (I:IMap) (v:Value) (l:List Evt) (hv:RdS I v l) (hl:l.length≤1000000) :
    FnI prog 59 #[v] I (fun u J=>RdS J u (a0Q l)):=by
 obtain⟨A,c0,rfl,hA,hc,hm⟩:=hv;refine enter func59 call59 rfl ntmps59 rfl fun w0=>?_;refine go 17 ?_
 refine a2B ((0:Nat)) (_) (I) (fun i v3 J=>J)
  (fun i v3 J=>[(0,.slice A l.length c0),(3,v3),(4,.int .i64 ((i:Nat):Int))])
  (fun i v3 J=>[])
  (fun i v3 J=>i≤l.length∧ILe I J∧RdS J v3 (a0Q (l.take i)))
  (fun i v3 J=>l.length-i) ⟨Nat.zero_le _,ILe.refl _,RdS.nil'⟩ rfl sb rfl ?_
 intro i v3 J ⟨hi,hJ,hv3⟩;have hA:=hA.le hJ;obtain⟨A3,c3,rfl,hA3,hc3,hm3⟩:=id hv3;have hsl:(a0Q (l.take i)).length=i:=by rw[a3X,List.length_take];omega
 refine gC 9 (fun h10 p10=>?_) fun h10 p10=>?_
 ·have hlt:i<l.length:=oM;refine go 12 ?_;refine a3O (α:=Nat) (Ix:=(fun k=>J)) (Lx:=(fun k=>[(0,.slice A l.length c0),(3,.slice A3 (a0Q (l.take i)).length c3),(4,.int .i64 ((i:Nat):Int)),(5,.int .i64 ((k:Nat):Int))])) (Hx:=(fun k=>[])) (p:=(fun k=>k≤i∧(∀j y,k≤j→(a0Q (l.take i))[j]? = some y→Day.day y>Day.day l[i])∧(k=0∨∃y,(a0Q (l.take i))[k-1]? = some y∧Day.day y≤Day.day l[i]))) ?_ ?_
  ·refine go 1 ?_
   refine a0w (α:=Nat) i (fun k=>J)
    (fun k=>[(0,.slice A l.length c0),(3,.slice A3 (a0Q (l.take i)).length c3),(4,.int .i64 ((i:Nat):Int)),(5,.int .i64 ((k:Nat):Int))])
    (fun k=>[])
    (fun k=>k≤i∧∀j y,k≤j→(a0Q (l.take i))[j]? = some y→Day.day y>Day.day l[i])
    (fun k=>k) ⟨Nat.le_refl _,fun j y h1 h2=>by have:=(List.getElem?_eq_some_iff.1 h2).1;omega⟩ rfl ⟨rfl,rfl,rfl,congrArg (fun z:Nat=>some (Value.int .i64 (z:Int))) hsl,trivial⟩ rfl ?_
   intro k ⟨hki,hk1⟩;refine go 3 ?_;refine dG 0 3 ?_;refine gS 0 17 (fun h17 p17=>?_) fun h17 p17=>?_
   ·refine dG 3 2 ?_;refine d_t 5 rfl rfl (by kernel_rfl) rfl (fun _ m=>m.keeps .slnil) (a2L rfl rfl h17 (OV.cast (u:=.int .i64 ((k-1:Nat):Int)) (a1v rfl rfl ⟨oM,oM⟩) (congrArg (Value.int .i64) oM))) ?_;obtain⟨b21,o21,w21,e21,c21,r21⟩:=RdA.at_ hA3 (i:=k-1) oM;obtain rfl:=r21;refine d_t 6 rfl rfl (by kernel_rfl) rfl (fun _ m=>m.keeps .slnil) (a2L rfl rfl h17 (a0i he rfl rfl e21 (k-1) oM oM)) ?_;refine dG 7 4 ?_;obtain⟨b26,o26,w26,e26,c26,r26⟩:=RdA.at_ hA (i:=i) hlt;obtain rfl:=r26;refine dG 11 5 ?_;refine gC 2 (fun h30 p30=>?_) fun h30 p30=>?_
    ·refine go 10 ?_
     exact a0s (k-1) ⟨oM,fun j y h1 h2=>by
       rcases Nat.lt_or_ge j k with h|h
       · obtain rfl:j=k-1:=oM
         rw[List.getElem?_eq_getElem oM]at h2
         cases h2
         exact p30
       · exact hk1 j y h h2⟩ oM rfl ⟨rfl,rfl,rfl,congrArg (fun z:Int=>some (Value.int .i64 z)) oM,trivial⟩ rfl
    ·refine go 5 ?_;exact a1s k ⟨hki,hk1,.inr ⟨_,List.getElem?_eq_getElem oM,Int.not_lt.1 p30⟩⟩ sb rfl rfl
   ·refine dG 3 13 ?_;refine go 8 ?_;exact a1s k ⟨hki,hk1,.inl oM⟩ sb rfl rfl
  ·intro k ⟨hki,hk1,hk2⟩;refine go 1 ?_;refine a3h fun hE8 hf8=>?_;refine go 1 ?_;refine dG 0 2 ?_;obtain⟨b35,o35,w35,e35,c35,r35⟩:=RdA.at_ hA (i:=i) hlt;obtain rfl:=r35;refine dG 2 2 ?_;refine dG 5 2 ?_;refine a0F 7 rfl rfl (by kernel_rfl) rfl .slnil rfl (a0K he rfl rfl k rfl oM) ?_;refine dH 4 0 ?_;refine go 1 fun v37=>?_
   refine dH 8 0 ?_;refine a0y ((hv3.drop k oM)) rfl he he rfl rfl rfl rfl (by simp;omega) (by simp;omega) rfl fun v41 x41 f41=>?_;refine a0d (l:=l[i]::(a0Q (l.take i)).drop k) rfl (by simp;omega) (.cons rfl f41) fun I41 j41 R41=>?_;have hA3:=hA3.le j41;have hv3:=hv3.le j41;refine dG 9 1 ?_;refine go 5 fun v42=>?_
   refine go 2 ?_;refine o_v rfl (a1y he rfl rfl k rfl oM) ?_;refine go 1 ?_;refine a0y ((hv3.take k oM)) rfl he he rfl rfl rfl rfl (by simp;omega) (by simp;omega) rfl fun v46 x46 f46=>?_;refine go 2 ?_;refine a0y (R41) rfl he he rfl rfl rfl rfl (by simp;omega) (by simp;omega) rfl fun v48 x48 f48=>?_;refine a0d (l:=(a0Q (l.take i)).take k++l[i]::(a0Q (l.take i)).drop k) rfl (by simp<;>omega) (((Flat.nil.append f46).append f48)) fun I48 j48 R48=>?_;refine go 10 ?_;exact a1r (i+1) (_) (_) ⟨oM,hJ.trans (j41.trans j48),by rw[←a0e hlt,←c1b (k:=k) oM hk1 (by rcases hk2 with h|h;exact .inl h;exact .inr h)];simpa using R48⟩ oM rfl sb rfl
 ·refine go 13 ?_;have e:i=l.length:=oM;subst e;exact q_i (by have h:=hv3;rwa[List.take_length]at h ⊢)
theorem c5s (I:IMap) (vc:Value) (c:List Kind) (hvc:RdS I vc c) (hsc:SmC c) (v:Value) (l:List Evt) (hv:RdS I v l) (hl:l.length≤1000000) (hse:∀e∈l,SmE e) :
    FnI prog 151 #[.agg #[vc],v] I (fun u J=>∃w,u = .tuple #[.agg #[w],.int .i64 (b7x c l).2.1,.int .i64 (b7x c l).2.2]∧RdS J w (b7x c l).1):=by
 refine enter func151 call151 rfl ntmps151 rfl fun w0=>?_;refine go 4 fun g2=>?_
 refine go 2 fun g4=>?_
 refine go 9 ?_;refine cV (a8Z _ vc c hvc hsc) ?_;refine gC 3 (fun h14 p14=>?_) fun h14 p14=>?_
 ·refine go 12 ?_;have hr:b7x c l=([],-1,1):=by unfold b7x;rw[if_pos (by rw[a3J];simpa using h14)]
  exact q_i ⟨_,by rw[hr],by rw[hr];exact RdS.nil'⟩
 ·have hC:a1a c=true:=by rw[a3J];simpa using h14
  refine go 6 ?_;refine a0D (b3Q _ v l hv hl) rfl rfl fun v17 I17 j17 q17=>?_;have hvc:=hvc.le j17;have q17s:=q17;obtain⟨A17,c17,rfl,hA17,_,_⟩:=q17;have hsl:=a3X l;refine go 7 fun g8=>?_
  refine go 9 ?_
  refine a2C (0) ([]) (.slice none 0 0) (I17) (fun i st v8 J=>J)
   (fun i st v8 J=>[(2,.pointer (some ⟨g2,0,none⟩)),(4,.pointer (some ⟨g4,0,none⟩)),(7,.slice A17 (a0Q l).length c17),(8,.pointer (some ⟨g8,0,none⟩)),(9,.int .i64 ((i:Nat):Int))])
   (fun i st v8 J=>[.blk g8 97 [v8],.blk g4 97 [.slice none 0 0],.blk g2 24 [vc]])
   (fun i st v8 J=>i≤(a0Q l).length∧ILe I17 J∧RdS J v8 st∧SmF st∧b3X c [] 0 (a0Q l)=b3X c st (i:Nat) ((a0Q l).drop i))
   (fun i st v8 J=>(a0Q l).length-i) ⟨Nat.zero_le _,ILe.refl _,RdS.nil',SmF.nil,rfl⟩ rfl sb rfl ?_
  intro i st v8 J ⟨hi,hJ,hv8,hsf,hgo⟩;have hvc:=hvc.le hJ;have hA17:=hA17.le hJ;refine gC 9 (fun h21 p21=>?_) fun h21 p21=>?_
  ·have hlt:i<(a0Q l).length:=oM;refine go 5 ?_;refine a3h fun hE8 hf8=>?_;refine go 1 ?_;refine dG 0 4 ?_;obtain⟨b29,o29,w29,e29,c29,r29⟩:=RdA.at_ hA17 (i:=i) hlt;obtain rfl:=r29;refine dG 4 2 ?_;refine dT2 6 10 ?_ ?_
   ·refine a0D (a6v _ vc c hvc hsc _ st hv8 hsf (a0Q l)[i] (hse _ (a4B.1 (List.getElem_mem hlt)))) rfl rfl fun v31 I31 j31 q31=>?_;obtain⟨w31,rfl,hw31⟩:=q31;refine dH 7 3 ?_;refine go 1 fun g10=>?_
    refine dH 11 0 ?_;refine a1A _ he rfl rfl rfl rfl rfl (by simp[hw31.one]) ?_;refine dG 12 1 ?_;refine gC 9 (fun h35 p35=>?_) fun h35 p35=>?_
    ·have hok:¬(a0f c st (a0Q l)[i]).2=0:=by simpa using p35
     refine go 6 ?_;refine a0c ?_;refine go 13 ?_;have hr:b7x c l=([],((i:Nat):Int),(a0f c st (a0Q l)[i]).2):=by unfold b7x;rw[if_neg (by simp[hC]),hgo,a9c hlt,if_neg hok]
     exact q_i ⟨_,by rw[hr];rfl,by rw[hr];exact RdS.nil'⟩
    ·have hok:(a0f c st (a0Q l)[i]).2=0:=by simpa using p35
     refine go 5 ?_;refine a0b ?_;refine a1A _ he rfl rfl rfl rfl rfl (by simp[hw31.one]) ?_;refine go 9 ?_;refine a0b ?_;refine a0a ?_;exact a1k (i+1) (_) (_) (_) ⟨oM,hJ.trans j31,hw31,a5b hsf (hse _ (a4B.1 (List.getElem_mem hlt))),by rw[hgo,a9c hlt,if_pos hok];rfl⟩ oM rfl sb rfl
   ·refine go 1 fun g10=>?_
    refine dH 6 0 ?_;refine a0D (a6v _ vc c hvc hsc _ st hv8 hsf (a0Q l)[i] (hse _ (a4B.1 (List.getElem_mem hlt)))) rfl rfl fun v31 I31 j31 q31=>?_;obtain⟨w31,rfl,hw31⟩:=q31;refine dG 7 3 ?_;refine dH 11 0 ?_;refine a1A _ he rfl rfl rfl rfl rfl (by simp[hw31.one]) ?_;refine dG 12 1 ?_;refine gC 9 (fun h35 p35=>?_) fun h35 p35=>?_
    ·have hok:¬(a0f c st (a0Q l)[i]).2=0:=by simpa using p35
     refine go 6 ?_;refine a0c ?_;refine go 13 ?_;have hr:b7x c l=([],((i:Nat):Int),(a0f c st (a0Q l)[i]).2):=by unfold b7x;rw[if_neg (by simp[hC]),hgo,a9c hlt,if_neg hok]
     exact q_i ⟨_,by rw[hr];rfl,by rw[hr];exact RdS.nil'⟩
    ·have hok:(a0f c st (a0Q l)[i]).2=0:=by simpa using p35
     refine go 5 ?_;refine a0b ?_;refine a1A _ he rfl rfl rfl rfl rfl (by simp[hw31.one]) ?_;refine go 9 ?_;refine a0b ?_;refine a0a ?_;exact a1k (i+1) (_) (_) (_) ⟨oM,hJ.trans j31,hw31,a5b hsf (hse _ (a4B.1 (List.getElem_mem hlt))),by rw[hgo,a9c hlt,if_pos hok];rfl⟩ oM rfl sb rfl
  ·refine go 9 ?_;refine a0b ?_;refine a1A _ he rfl rfl rfl rfl rfl (by simp[hv8.one]) ?_;refine go 6 ?_;have hr:b7x c l=(st,-1,0):=by unfold b7x;rw[if_neg (by simp[hC]),hgo,List.drop_eq_nil_of_le oM];rfl
   exact q_i ⟨_,by rw[hr],by rw[hr];exact hv8⟩
end Go.Proofs.YtkndpfncklhhlaaGreat
set_option linter.all false
namespace Go.Sx
open Go
structure Rep where
 options:List Evt
 doubtful:Bool
 deriving DecidableEq
def Rep.cells (r:Rep) (s:Value):List Value:=[s,.bool r.doubtful]
instance:Enc Rep where
 k:=2
 rd I vs x:=∃s,vs=x.cells s∧RdS I s x.options
 len h:=by obtain⟨ks,rfl,_⟩:=h;rfl
 mono hI h:=by obtain⟨ks,rfl,h⟩:=h;exact⟨ks,rfl,h.le hI⟩
 one h:=by obtain⟨ks,rfl,h⟩:=h;obtain⟨A,c,rfl,_⟩:=h;rfl
instance:Enc UInt8 where
 k:=1
 rd _ vs x:=vs=[.int .u8 x.toNat]
 len h:=by rw[h];rfl
 mono _ h:=h
 one h:=by rw[h];rfl
structure Pkd where
 e:Evt
 rep:Int
 lo:0≤e.day
 hi:e.day≤40000
def Pkd.cells (p:Pkd):List Value:=p.e.cells++[ci p.rep]
instance:Enc Pkd where
 k:=15
 rd _ vs x:=vs=x.cells
 len h:=by rw[h];rfl
 mono _ h:=h
 one h:=by rw[h];rfl
instance:Day Pkd:=⟨fun p=>p.e.day,Pkd.cells,15,fun _=>rfl⟩
def a4y (pre:List Evt) (e:Evt):Bool:=!(hit id pre e || !a1t e)
def a0l (r:Rep):Bool:=!(decide (((r.options.length:Nat):Int)=0)||decide ((4:Int)<(r.options.length:Nat)))&&a2m a4y r.options r.options.length
def chs (r:Rep):Int:=if a0l r=false then 0 else if r.doubtful=true then ((r.options.length:Nat):Int)+1 else ((r.options.length:Nat):Int)
theorem a3r {r:Rep} (h:a0l r=true):∀e∈r.options,a1t e=true:=by
 intro e he
 simp only[a0l,Bool.and_eq_true]at h
 obtain⟨pre,h1⟩:=a4g h.2 he
 simp only[a4y,Bool.not_eq_true',Bool.or_eq_false_iff,Bool.not_eq_false']at h1
 exact h1.2
theorem a8g {e:Evt} (h:a1t e=true):0≤e.day∧e.day≤40000:=by
 simp only[a1t,Bool.and_eq_true,Bool.not_eq_true']at h
 have h1:=h.1.1.1
 simp only[a9y,Bool.or_eq_false_iff,decide_eq_false_iff_not]at h1
 omega
def at2 {β:Type} (f:Rep→Int→β) (l:List Rep) (ch:List Int) (i:Nat):Option β:=match l[i]?,ch[i]? with|some r,some k=>some (f r k)|_,_=>none
theorem a2V {β:Type} {f:Rep→Int→β} {l:List Rep} {ch:List Int} {i:Nat} (h1:i<l.length) (h2:i<ch.length):at2 f l ch i=some (f l[i] ch[i]):=by
 simp[at2,h1,h2]
def a7a (f:Rep→Int→Bool) (l:List Rep) (ch:List Int) (n:Nat):Bool:=(List.range n).all fun i=>(at2 f l ch i).getD true
theorem a6k {f:Rep→Int→Bool} {l:List Rep} {ch:List Int} {i:Nat} (h:a7a f l ch i=true) (h1:i<l.length) (h2:i<ch.length) (hf:f l[i] ch[i]=true):a7a f l ch (i+1)=true:=
 a7c h (by simp[a2V h1 h2,hf])
theorem a7b {f:Rep→Int→Bool} {l:List Rep} {ch:List Int} {i n:Nat} (hn:i<n) (h1:i<l.length) (h2:i<ch.length) (hf:f l[i] ch[i]=false):a7a f l ch n=false:=
 a9h (p:=fun i=>(at2 f l ch i).getD true) hn (by simp[a2V h1 h2,hf])
theorem b1B {f:Rep→Int→Bool} {l:List Rep} {ch:List Int} {n i:Nat} (h:a7a f l ch n=true) (hi:i<n) (h1:i<l.length) (h2:i<ch.length):f l[i] ch[i]=true:=by
 rw[a7a,List.all_eq_true]at h
 have:=h i (List.mem_range.2 hi)
 simpa[a2V h1 h2]using this
def a8l (least:Int) (r:Rep) (k:Int):Bool:=!((decide (chs r=0)||decide (k<least))||decide (chs r≤k))
def a1G (c:List Kind) (l:List Rep) (ch:List Int) (least:Int):Bool:=!(!a1a c || !decide (((ch.length:Nat):Int)=(l.length:Nat)))&&a7a (a8l least) l ch l.length
def a4b (day:Int) (r:Rep) (k:Int):Option Evt:=if 0≤k then (match r.options[k.toNat]? with|some e=>if e.day<day then some e else none|none=>none) else none
def pkd (day:Int) (l:List Rep) (ch:List Int) (i:Nat):Option Pkd:=match (at2 (a4b day) l ch i).join with
 |some e=>if h:0≤e.day∧e.day≤40000 then some ⟨e,i,h.1,h.2⟩ else none
 |none=>none
def a2R (day:Int) (l:List Rep) (ch:List Int) (n:Nat):List Pkd:=(List.range n).filterMap (pkd day l ch)
theorem a5k (day:Int) (l:List Rep) (ch:List Int) (i:Nat):a2R day l ch (i+1)=a2R day l ch i++(pkd day l ch i).toList:=by
 rw[a2R,List.range_succ,List.filterMap_append,a2R]
 congr 1
def a3b (c:List Kind):List Part→List Pkd→Int×Int
 |_,[]=>(-1,0)
 |st,p::r=>if (a0f c st p.e).2=0 then a3b c (a0f c st p.e).1 r else (p.rep,(a0f c st p.e).2)
def a4s (c:List Kind) (l:List Rep) (ch:List Int) (day:Int):Int×Int:=a3b c [] (a0Q (a2R day l ch l.length))
def a8o (c:List Kind) (l:List Rep) (ch:List Int):Int×Int:=if a1G c l ch 0=false then (-1,1) else a4s c l ch 40001
def isF (c:List Kind) (l:List Rep) (ch:List Int):Bool:=decide ((a8o c l ch).2=0)
def a1w (l:List Rep) (ch:List Int) (n:Nat):List Int:=(List.range n).flatMap fun i=>(at2 (fun r k=>if k<0 then r.options.map Evt.day else []) l ch i).getD []
def a5c (l:List Int):Int:=l.foldl (fun a d=>if d<a then d else a) 40001
def a7m (c:List Kind) (l:List Rep) (ch:List Int):Bool:=if a1G c l ch (-1)=false then false else !decide ((a4s c l ch (a5c (a1w l ch l.length))).2=0)
end Go.Sx
set_option linter.all false
namespace Go.Sx
open Go
section
variable {α β:Type} [Day α] [Day β]
theorem b6o (f:α→β) (hf:∀x,Day.day (f x)=Day.day x) (e:α):∀l:List α,(a8B e l).map f=a8B (f e) (l.map f)
 | []=>rfl
 |x::r=>by
  simp only[a8B,List.map_cons,hf]
  split
  ·rfl
  ·rw[List.map_cons,b6o f hf e r]
theorem b4b (f:α→β) (hf:∀x,Day.day (f x)=Day.day x):∀l:List α,(a0Q l).map f=a0Q (l.map f)
 | []=>rfl
 |x::r=>by
  show (a8B x (a0Q r)).map f=a8B (f x) (a0Q (r.map f))
  rw[b6o f hf,b4b f hf r]
theorem b8r {e:α} {l:List α} (h:∀x∈l,Day.day e≤Day.day x):a8B e l=e::l:=by
 cases l with
 |nil=>rfl
 |cons x r=>simp only[a8B];rw[if_pos (h x (by simp))]
theorem b3h (p:α→Bool) (e:α):∀{l:List α},b4p l→(a8B e l).filter p=if p e=true then a8B e (l.filter p) else l.filter p
 | [],_=>by by_cases h:p e=true<;>simp[a8B,h]
 |x::r,hs=>by
  have hs':=List.pairwise_cons.1 hs
  simp only[a8B]
  by_cases hd:Day.day e≤Day.day x
  ·rw[if_pos hd,List.filter_cons]
   by_cases h:p e=true
   ·rw[if_pos h,if_pos h,b8r];intro y hy
    rcases List.mem_cons.1 (List.mem_filter.1 hy).1 with rfl|hy
    ·exact hd
    ·exact Int.le_trans hd (hs'.1 y hy)
   ·rw[if_neg h,if_neg h]
  ·rw[if_neg hd,List.filter_cons,b3h p e hs'.2,List.filter_cons]
   by_cases h:p e=true
   ·rw[if_pos h,if_pos h]
    by_cases hx:p x=true
    ·rw[if_pos hx,if_pos hx];simp only[a8B];rw[if_neg hd]
    ·rw[if_neg hx,if_neg hx]
   ·rw[if_neg h,if_neg h]
theorem b1r (p:α→Bool):∀l:List α,(a0Q l).filter p=a0Q (l.filter p)
 | []=>rfl
 |x::r=>by
  show (a8B x (a0Q r)).filter p=_
  rw[b3h p x (a5n r),b1r p r,List.filter_cons]
  split<;>rfl
end
def a6e (c:List Kind):List Part→List Evt→Option (List Part)
 |st,[]=>some st
 |st,e::r=>if (a0f c st e).2=0 then a6e c (a0f c st e).1 r else none
theorem c2v (c:List Kind):∀(l:List Evt) (st:List Part) (z:Int),(a6e c st l).isSome=decide ((b3X c st z l).2.2=0)
 | [],_,_=>rfl
 |e::r,st,z=>by
  simp only[a6e,b3X]
  split
  ·exact c2v c r _ _
  ·rename_i h;simp[h]
theorem a9C (c:List Kind):∀(l:List Pkd) (st:List Part),decide ((a3b c st l).2=0)=(a6e c st (l.map Pkd.e)).isSome
 | [],_=>rfl
 |p::r,st=>by
  simp only[List.map_cons,a6e,a3b]
  split
  ·exact a9C c r _
  ·rename_i h;simp[h]
theorem b0S (c:List Kind):∀(a b:List Pkd) (st:List Part),a3b c st (a++b)=match a6e c st (a.map Pkd.e) with|some s=>a3b c s b|none=>a3b c st a
 | [],_,_=>rfl
 |p::r,b,st=>by
  simp only[List.cons_append,List.map_cons,a6e,a3b]
  split
  ·rw[b0S c r b]
  ·rfl
end Go.Sx
set_option linter.all false
namespace Go.Sx
open Go
structure Rst (k:Nat) where
 l:List (List Value)
 uk:Uk k l
theorem a0n (l:List Pkd):Uk 15 (a1C l):=c0o l
theorem b8d {I:IMap} (l:List Pkd):FlatC I (a1C l) l:=by
 induction l with
 |nil=>exact .nil
 |cons e l ih=>exact .cons rfl ih
theorem a0N {l:List Pkd} {rest:List (List Value)} {i:Nat} (h:i<l.length):(a1C l++rest)[i]? = some (Day.ch l[i]):=by
 rw[List.getElem?_append_left (by rw[a0v];exact h)];exact a1B h
section
variable {α:Type} [Day α]
theorem a7l (l:List α) (rest:List (List Value)) (i:Nat) (h:i<l.length) (e:α):(a1C l++rest).set i (Day.ch e)=a1C (l.set i e)++rest:=by
 rw[List.set_append_left _ _ (by rw[a0v];exact h),a6l]
theorem a3R {l:List α} {rest:List (List Value)} {i j:Nat} (hi:i<l.length) (hj:j<l.length):((a1C l++rest).set i (Day.ch l[j])).set j (Day.ch l[i])=a1C (swp l i j)++rest:=by
 rw[a7l _ _ _ hi,a7l _ _ _ (by rw[List.length_set];exact hj),b1s hi hj]
theorem a3p {l:List α} {rest:List (List Value)} {i j:Nat} (hi:i<l.length) (hj:j<l.length) (hij:i≠j):((a1C l++rest).set j (Day.ch l[i])).set i (Day.ch l[j])=a1C (swp l i j)++rest:=by
 rw[a7l _ _ _ hj,a7l _ _ _ (by rw[List.length_set];exact hi),b1s hi hj,List.set_comm _ _ hij.symm]
end
theorem c3Y {I:IMap} {xss:List (List Value)} {l:List Pkd} (h:FlatC I xss l):xss=a1C l:=by
 induction h with
 |nil=>rfl
 |cons h1 _ ih=>rw[ih];simp only[a1C,List.map_cons];rw[show _=_ from h1];rfl
theorem a7K {a b:Int}:a-b<0↔a<b:=oM
theorem b4F {l:List Pkd} {i j:Nat} {hi:i<l.length} {hj:j<l.length} (h:Day.day l[i]-Day.day l[j]<0):a0u l i<a0u l j:=by
 rw[a7K]at h;rw[a1q hi,a1q hj];exact h
theorem b4E {l:List Pkd} {i j:Nat} {hi:i<l.length} {hj:j<l.length} (h:¬Day.day l[i]-Day.day l[j]<0):a0u l j≤a0u l i:=by
 rw[a7K]at h;rw[a1q hi,a1q hj];omega
section
variable {P:Program} {ρ:Option Nat} {n:Sz} {E:Ent} {I I':IMap} {L:LL} {H:List Res} {Q:Exit→Act→World→Prop} {ops:Array Oper} {K:Act→World→Prop} {w0:World}
variable {d ty:Nat} {pos:String} {af:Array Edge} {fo:Operand} {as_:List Operand} {ats:Array TypeId} {f:FuncId} {args:List Value} {r r':Res} {X:List Nat}
def FnG (P:Program) (f:FuncId) (args:Array Value) (I:IMap) (r:Res) (p:Value→IMap→Res→Prop):Prop:=FnH P f args I [r] fun u I' H'=>∃r',H'=[r']∧p u I' r'
theorem a7Z {p:Value→IMap→Res→Prop} (hc:FnG P f args.toArray I r p) (h:a1z L fo as_=some (f,args)) (hd:Nat.blt d n.sz=true) (k:∀v I' r',ILe I I'→p v I' r'→SX n E I' ((d,v)::L) (r'::H) K) :
  SX n E I L (r::H) (one P ops Q ⟨some d,.call { callee:=.value fo,args:=as_.toArray,argTypes:=ats },ty,pos,af,none⟩ K):=
 a3E (Hc:=[r]) (H0:=H) hc h hd fun u I' H' hI hp=>by obtain⟨r',rfl,h1⟩:=hp;exact k u I' r' hI h1
theorem q_g {v:Value} {p:Value→IMap→Res→Prop} (h:p v I r):SX n E I L [r] fun _ w=>a8F E (fun u' I' H'=>∃r',H'=[r']∧p u' I' r') (.returned v) w:=a4N (fun _ m=>m) ⟨r,rfl,h⟩
theorem FnX.of_V {args:Array Value} {v:Value} {t k:Nat} (h:FnV P f args I v):FnX P f args I [] (fun u r=>u=v∧r = .row (.slice none 0 0) t k 0 []):=
 ⟨fun w m=>(h.go w m).mono fun _ _ ⟨u,I',H',he,hm,hq⟩=>by
  obtain⟨rfl,rfl,rfl⟩:=hq
  exact⟨_,_,_,he,hm.nilrow t k,rfl,_,rfl,rfl,rfl⟩⟩
theorem FnX.back {args:Array Value} {g e k m cap:Nat} {xss yss rest:List (List Value)} {p:Value→Res→Prop} (hU:Uk k yss) (hR:Uk k rest) (hm:yss.length=m) (hc:m+rest.length=cap) (hl:cap≤maxLen)
  (h:FnX P f args I [.blk g e (xss++rest).flatten] (fun u r=>p u (.row (.slice (some ⟨g,0,none⟩) m cap) e k m yss.flatten)∧r = .blk g e (yss++rest).flatten)):FnX P f args I [.blk g e (xss++rest).flatten] p:=
 ⟨fun w m'=>(h.go w m').mono fun _ w' ⟨u,I',H',he,hm',hq⟩=>by
  obtain⟨rfl,r',rfl,hp,rfl⟩:=hq;refine⟨_,_,_,he,?_,rfl,_,rfl,hp⟩;have hb:w'.heap[g]? = some (.cells (yss++rest).flatten.toArray e (0,0)):=hm'.blk
  exact hm'.step rfl ⟨rfl,Nat.le_refl _⟩ rfl (Nat.le_refl _) (fun _ _ _=>rfl) (IsRow.shut hb hU hR hm hc hl) (fun g' hg'=>.inl hg')⟩
theorem FnX.of_rowV {args:Value→List Value} {p:Value→Res→Prop} {v:Value} {e k m:Nat} {xss:List (List Value)} (hU:Uk k xss) (hm:xss.length=m)
  (h0:m=0→v = .slice none 0 0→FnX P f (args (.slice none 0 0)).toArray I [] p)
  (h1:∀g cap rest,v = .slice (some ⟨g,0,none⟩) m cap→Uk k rest→m+rest.length=cap→cap≤maxLen→FnX P f (args (.slice (some ⟨g,0,none⟩) m cap)).toArray I [.blk g e (xss++rest).flatten] p):FnX P f (args v).toArray I [.row v e k m xss.flatten] p:=by
 refine⟨fun w mm=>?_⟩;have hr:IsRow (b3o w) v e k m xss.flatten:=mm.holds (.row v e k m xss.flatten) (List.mem_cons_self ..)
 rcases hr.open_ hU hm with ⟨h2,h3⟩|⟨g,cap,rest,h2,h3,h4,h5,h6⟩
 ·subst h3;exact (h0 h2 rfl).go w mm.drop
 ·subst h2;exact (h1 g cap rest rfl h3 h4 h5).go w (mm.step rfl ⟨rfl,Nat.le_refl _⟩ rfl (Nat.le_refl _) (fun _ _ _=>rfl) h6 (fun g' hg'=>.inl hg'))
end
theorem c4X (day:Int) (l:List Rep) (ch:List Int) (i:Nat):(a2R day l ch i).length≤i:=by
 unfold a2R;exact Nat.le_trans (List.length_filterMap_le _ _) (by simp)
section
variable {day:Int} {l:List Rep} {ch:List Int} {i:Nat} {out:List Pkd}
theorem c8V (h1:i<l.length) (h2:i<ch.length) (hw:a2R day l ch i=out) (h:a4b day l[i] ch[i]=none):a2R day l ch (i+1)=out:=by
 rw[a5k,hw,pkd,a2V h1 h2,h];simp
theorem d1R (h1:i<l.length) (h2:i<ch.length) (hw:a2R day l ch i=out) (h:¬0≤ch[i]):a2R day l ch (i+1)=out:=c8V h1 h2 hw (if_neg h)
theorem d1Q (h1:i<l.length) (h2:i<ch.length) (hw:a2R day l ch i=out) (h:¬ch[i]<(l[i].options.length:Nat)):a2R day l ch (i+1)=out:=c8V h1 h2 hw (by
 unfold a4b
 split
 ·rw[List.getElem?_eq_none oM]
 ·rfl)
theorem c8U (h1:i<l.length) (h2:i<ch.length) (hw:a2R day l ch i=out) (hk:ch[i].toNat<l[i].options.length) (h:¬l[i].options[ch[i].toNat].day<day):a2R day l ch (i+1)=out:=c8V h1 h2 hw (by
 unfold a4b
 split
 ·simp only[List.getElem?_eq_getElem hk];rw[if_neg h]
 ·rfl)
theorem d1S (h1:i<l.length) (h2:i<ch.length) (hw:a2R day l ch i=out) (h0:0≤ch[i]) (hk:ch[i].toNat<l[i].options.length) (h:l[i].options[ch[i].toNat].day<day) (hv:0≤l[i].options[ch[i].toNat].day∧l[i].options[ch[i].toNat].day≤40000) :
  a2R day l ch (i+1)=out++[⟨l[i].options[ch[i].toNat],i,hv.1,hv.2⟩]:=by
 have ho:a4b day l[i] ch[i]=some l[i].options[ch[i].toNat]:=by
  unfold a4b;rw[if_pos h0]
  simp only[List.getElem?_eq_getElem hk];rw[if_pos h]
 rw[a5k,hw,pkd,a2V h1 h2,ho]
 simp[hv]
end
theorem a9D {c:List Kind} {st:List Part} {l:List Pkd} {i:Nat} (hi:i<l.length):a3b c st (l.drop i)=if (a0f c st l[i].e).2=0 then a3b c (a0f c st l[i].e).1 (l.drop (i+1)) else (l[i].rep,(a0f c st l[i].e).2):=by
 rw[List.drop_eq_getElem_cons hi];rfl
theorem b3A (l:List Rep) (ch:List Int) (i:Nat):a1w l ch (i+1)=a1w l ch i++((at2 (fun r k=>if k<0 then r.options.map Evt.day else []) l ch i).getD []):=by
 rw[a1w,List.range_succ,List.flatMap_append,a1w];simp
def a5f (l:List Rep) (ch:List Int) (i j:Nat):List Int:=a1w l ch i++((at2 (fun r k=>if k<0 then (r.options.take j).map Evt.day else []) l ch i).getD [])
theorem b5m {l:List Rep} {ch:List Int} {i:Nat}:a5f l ch i 0=a1w l ch i:=by
 unfold a5f at2
 split
 ·simp
 ·simp
theorem b5l {l:List Rep} {ch:List Int} {i j:Nat} (h1:i<l.length) (h2:i<ch.length) (h:¬ch[i]<0) (j':Nat):a5f l ch i j=a5f l ch i j':=by
 unfold a5f;rw[a2V h1 h2,a2V h1 h2];simp[h]
theorem a9U {l:List Rep} {ch:List Int} {i j:Nat} (h1:i<l.length) (h2:i<ch.length) (h:ch[i]<0) (hj:j<l[i].options.length):a5f l ch i (j+1)=a5f l ch i j++[l[i].options[j].day]:=by
 unfold a5f;rw[a2V h1 h2,a2V h1 h2];simp only[if_pos h,Option.getD_some];rw[←a0e hj,List.map_append,List.append_assoc];rfl
theorem b1g {l:List Rep} {ch:List Int} {i:Nat} (h1:i<l.length) (h2:i<ch.length):a5f l ch i l[i].options.length=a1w l ch (i+1):=by
 rw[b3A,a5f,a2V h1 h2,a2V h1 h2];simp[List.take_length]
theorem c4Q {l:List Rep} {ch:List Int} {n i:Nat} (h:i≤n):a1w l ch i <+: a1w l ch n:=by
  induction n with
  | zero => obtain rfl : i = 0 := oM
            exact List.prefix_rfl
  |succ n ih=>
    rcases Nat.lt_or_ge n i with hi|hi
    · obtain rfl:i=n+1:=oM
      exact List.prefix_rfl
    · exact (ih hi).trans (by rw[b3A];exact List.prefix_append _ _)
theorem b8H {l:List Rep} {ch:List Int} {i j:Nat} (h1:i<l.length) (h2:i<ch.length) (h:ch[i]<0) (hj:j<l[i].options.length):a5f l ch i j++[l[i].options[j].day] <+: a1w l ch l.length:=by
 rw[←a9U h1 h2 h hj];refine List.IsPrefix.trans ?_ (c4Q (i:=i+1) oM);rw[←b1g h1 h2];unfold a5f;rw[a2V h1 h2,a2V h1 h2]
 simp only[if_pos h,Option.getD_some]
 refine (List.prefix_append_right_inj _).2 ?_;rw[List.take_length,List.map_take];exact List.take_prefix _ _
theorem a2K {r:Rep} (h:a0l r=true):1≤r.options.length∧r.options.length≤4:=by
 simp only[a0l,Bool.and_eq_true,Bool.not_eq_true',Bool.or_eq_false_iff,decide_eq_false_iff_not]at h
 omega
theorem c4Y {day:Int} {l:List Rep} {ch:List Int} {n:Nat} {p:Pkd} (h:p∈a2R day l ch n):∃r∈l,p.e∈r.options:=by
 rw[a2R,List.mem_filterMap]at h
 obtain⟨i,_,hi⟩:=h;unfold pkd at2 at hi
 split at hi
 ·rename_i e he
  split at hi
  ·cases hi
   split at he
   ·rename_i r k h1 h2
    refine⟨r,List.mem_of_getElem? h1,?_⟩
    simp only[Option.join_some,a4b]at he
    split at he
    ·split at he
     ·rename_i e' h3
      split at he
      ·cases he;exact List.mem_of_getElem? h3
      ·cases he
     ·cases he
    ·cases he
   ·simp at he
  ·cases hi
 ·cases hi
theorem a2E {c:List Kind} {l:List Rep} {ch:List Int} {n:Int} (h:a1G c l ch n=true):ch.length=l.length∧∀r∈l,a0l r=true:=by
 simp only[a1G,Bool.and_eq_true,Bool.not_eq_true',Bool.or_eq_false_iff,Bool.not_eq_false',decide_eq_true_eq]at h
 have hlc:ch.length=l.length:=oM;refine⟨hlc,fun r hr=>?_⟩;obtain⟨i,hi,rfl⟩:=List.getElem_of_mem hr;have:=b1B h.2 hi hi oM
 simp only[a8l,Bool.not_eq_true',Bool.or_eq_false_iff,decide_eq_false_iff_not]at this
 cases hv:a0l l[i]with
 |true=>rfl
 |false=>exact absurd (by simp[chs,hv]) this.1.1
theorem b8x (l:List Int) (d:Int):a5c (l++[d])=if d<a5c l then d else a5c l:=by
 rw[a5c,List.foldl_append];rfl
def d3i (e:Evt):Value:=.agg e.cells.toArray
end Go.Sx
set_option linter.all false
namespace Go.Sx
open Go
def d0s (P:Program):Nat→TypeId→Value→Bool
 |0,_,_=>false
 |d+1,t,x=>match P.underlying t with
  |some .bool|some (.int _)|some .string=>true
  |some (.struct fs)=>match x with
   |.agg xs=>fs.toList.all fun f=>match b3F P f.type xs.toList f.offset with|some v=>d0s P d f.type v|none=>false
   |_=>false
  |_=>false
theorem b6a {P:Program} {b:Bool}:∀(d:Nat) (t:TypeId) (v:Value),d0s P d t v=true→∀(n:Nat),d≤n→∀w:World,(Instr.checkKey b n t v).run P w = .ok () w
 |0,_,_,h,_,_,_=>by simp[d0s]at h
 |d+1,t,v,h,n,hn,w=>by
  obtain⟨n,rfl⟩:∃q,n=q+1:=⟨n-1,oM⟩;rw[d0s]at h
  rw[Instr.checkKey]
  split at h
  ·rename_i hu;simp[run_underlying hu]
  ·rename_i hu;simp[run_underlying hu]
  ·rename_i hu;simp[run_underlying hu]
  ·rename_i fs hu
   split at h
   ·rename_i xs
    simp only[Sem.run_bind,run_underlying hu,Result.andThen_ok]
    rw[←Array.forIn_toList]
    have key:∀l:List Field,(∀f∈l,(match b3F P f.type xs.toList f.offset with|some v=>d0s P d f.type v|none=>false)=true)→∀w:World,
      (forIn l PUnit.unit fun f (_:PUnit)=>do
       if f.name ≠ "_" then do
        let __do_lift ←part f.type xs f.offset
        Instr.checkKey b n f.type __do_lift
        pure PUnit.unit
        pure (ForInStep.yield PUnit.unit)
       else do
        pure PUnit.unit
        pure (ForInStep.yield PUnit.unit):Sem PUnit).run P w = .ok () w:=by
     intro l
     induction l with
     |nil=>intro _ w;simp
     |cons f l ih=>
      intro hl w;have h1:=hl f (by simp)
      split at h1
      ·rename_i v hv
       have e1:=a6a hv w;have e2:=b6a (b:=b) d f.type v h1 n oM w;have e3:=ih (fun g hg=>hl g (by simp[hg])) w;rw[List.forIn_cons]
       by_cases hf : f.name ≠ "_"
       ·simp only[if_pos hf,Sem.run_bind,e1,Result.andThen_ok,e2,Sem.run_pure]
        exact e3
       ·simp only[if_neg hf,Sem.run_bind,Result.andThen_ok,Sem.run_pure]
        exact e3
      ·cases h1
    have:=key fs.toList (by rw[List.all_eq_true]at h;exact h) w;rw[this]
    simp
   ·cases h
  ·cases h
def b0j (P:Program) (kt:TypeId):Bool:=match P.underlying kt with
 |some (.struct _)=>true
 |_=>false
theorem b8v {κ:Type} [DecidableEq κ] {P:Program} {kt:TypeId} {cells:κ→List Value} (h:b0j P kt=true) (he:∀p q,eqV P 9 kt (.agg (cells p).toArray) (.agg (cells q).toArray)=some (decide (p=q)))
  (hc:∀p,d0s P 9 kt (.agg (cells p).toArray)=true) (hb:∀p,(cells p).all (fun v=>Instr.sameBits 9999 v v)=true):KeyOK P kt (fun p=>.agg (cells p).toArray) where
 find:=by
  obtain⟨fs,h1⟩:∃fs,P.underlying kt=some (.struct fs):=by
   unfold b0j at h
   split at h
   ·rename_i fs hfs;exact⟨fs,hfs⟩
   ·cases h
  intro w k es kvs hes
  have key:∀(es:List MapEntry) (kvs:List (κ×Value)) (i:Nat),es.map (fun e=>(e.key,e.val))=a2l (fun p=>.agg (cells p).toArray) kvs→(Instr.findAsking kt (.agg (cells k).toArray) es i).run P w = .ok (a3j kvs k i) w:=by
   intro es
   induction es with
   |nil=>intro kvs i he;cases kvs<;>simp_all [a2l,Instr.findAsking,a3j]
   |cons e es ih=>
    intro kvs i hes
    cases kvs with
    |nil=>simp[a2l]at hes
    |cons p kvs=>
     obtain⟨k',v⟩:=p
     simp only[List.map_cons,a2l,List.cons.injEq,Prod.mk.injEq]at hes
     obtain⟨⟨h1,h2⟩,h3⟩:=hes;have hr:=b4H (P:=P) 9 kt _ _ _ (he k k') 10000 oM w
     simp only[Instr.findAsking,h1,Sem.run_bind,Op.equal,Op.maxDepth,hr,Result.andThen_ok]
     by_cases hk:k'=k
     ·subst hk;simp[a3j,h2]
     ·have:¬k=k':=fun e=>hk e.symm
      simp only[this,decide_false,Bool.false_eq_true,if_false,a3j,if_neg hk]
      exact ih kvs (i+1) h3
  simp only[Instr.findKey,Sem.run_bind,run_underlying h1,Result.andThen_ok]
  cases es with
  |nil=>cases kvs<;>simp_all [a2l,Instr.findNow,a3j]
  |cons e es=>
   have:Instr.findNow (.struct fs) (.agg (cells k).toArray) (e::es) 0=none:=by simp[Instr.findNow,Instr.sameNow]
   simp only[this]
   exact key _ kvs 0 hes
 check:=fun w b k=>b6a 9 kt _ (hc k) 10000 oM w
 same:=by
  intro k
  show Instr.sameBits (9999+1) (.agg (cells k).toArray) (.agg (cells k).toArray)=true
  have:=hb k;rw[List.all_eq_true]at this
  simp only[Instr.sameBits,beq_self_eq_true,Bool.true_and,List.all_eq_true]
  intro p hp;obtain⟨i,hi,rfl⟩:=List.getElem_of_mem hp
  simp only[List.getElem_zip]
  exact this _ (List.getElem_mem _)
theorem c3G (n:Nat) (s:ByteArray):Instr.sameBits n (.string s) (.string s)=true:=by
 have hs:(s == s)=true:=by rw[b5U];simp
 cases n<;>simp[Instr.sameBits,hs]
theorem c3F (n:Nat) (k:IntKind) (i:Int):Instr.sameBits n (.int k i) (.int k i)=true:=by cases n<;>simp[Instr.sameBits]
end Go.Sx
namespace Go.Proofs.YtkndpfncklhhlaaGreat
open Go Go.Sx Tryz
set_option linter.all false
set_option maxRecDepth 20000
set_option maxHeartbeats 4000000
instance:Has (a9w prog 30) (79,2):=hk
instance:Has (a9w prog 90) (3,1):=hk
instance:Has (a3C prog 79 0) (0,false,1):=hk
instance:Has (a3C prog 79 1) (1,false,1):=hk
instance:Has (tyK prog 30) (false,1):=hk
instance:Has (tyK prog 77) (false,1):=hk
instance:Has (tyK prog 79) (true,2):=hk
instance:Has (tyK prog 90) (false,1):=hk
instance:Has (prog.underlying 142) (.map 72 4):=hk
instance T.und_30:Has (prog.underlying 30) (.slice 79):=hk
instance:Has (prog.underlying 90) (.slice 3):=hk
instance:Has (a2r prog 79) [.slice none 0 0,.bool false]:=hk
theorem c6L:KeyOK prog 72 d3i:=b8v (cells:=Evt.cells) (by kernel_rfl) (fun p q=>b1O p q) (fun p=>by kernel_rfl) (fun p=>by simp[Evt.cells,c3G,c3F])
theorem b2w (I:IMap) (r:Rep) (S:Option Addr) (d:Nat) (hr:RdS I (.slice S r.options.length d) r.options) (hs:∀e∈r.options,SmE e) :
    FnV prog 43 #[.agg (r.cells (.slice S r.options.length d)).toArray] I (.bool (a0l r)):=by
 have hSA:RdA I S r.options:=(by obtain⟨_,_,e,h,_⟩:=hr;cases e;exact h);have hl4:d≤9223372036854775807:=(by obtain⟨_,_,e,h,h1,h2⟩:=hr;cases e;exact h2);have hl5:=hr.lenLe;refine enter func43 call43 rfl ntmps43 rfl fun w0=>?_;refine go 4 fun g1=>?_
 refine go 5 ?_;refine a1h (I':=I) (L':=[(1,.pointer (some ⟨g1,0,none⟩)),(15,.bool (decide (((r.options.length:Nat):Int)=0)||decide ((4:Int)<(r.options.length:Nat))))]) (H':=[.blk g1 79 (r.cells (.slice S r.options.length d))]) ?_ ?_
 ·refine gS 6 10 (fun h10 p10=>?_) fun h10 p10=>?_
  ·refine go 7 ?_;exact a0h ⟨rfl,(bB (by simp only[h10,bS])),trivial⟩ rfl rfl
  ·refine go 7 ?_;exact a0h ⟨rfl,(bB (by simp only[h10,bS])),trivial⟩ rfl rfl
 ·refine gC 0 (fun h15 p15=>?_) fun h15 p15=>?_
  ·refine go 8 ?_;exact q_v (congrArg Value.bool (by simp only[a0l,h15];rfl))
  ·refine go 5 ?_;refine a7z (d3i) he rfl fun r16=>?_;refine go 13 ?_
   refine a0w (α:=Nat) 0 (fun i=>I)
    (fun i=>[(1,.pointer (some ⟨g1,0,none⟩)),(3,.map (some r16)),(18,.slice S r.options.length d),(19,.int .i64 ((r.options.length:Nat):Int)),(20,.int .i64 ((i:Nat):Int))])
    (fun i=>[.mp r16 (a2l d3i (a2Q _root_.id (fun _=>Value.bool true) (r.options.take i))),.blk g1 79 (r.cells (.slice S r.options.length d))])
    (fun i=>i≤r.options.length∧a2m a4y r.options i=true)
    (fun i=>r.options.length-i) ⟨Nat.zero_le _,rfl⟩ rfl sb rfl ?_
   intro i ⟨hi,hn⟩;refine gC 6 (fun h21 p21=>?_) fun h21 p21=>?_
   ·have hlt:i<r.options.length:=oM;refine go 6 ?_;obtain⟨b22,o22,w22,e22,c22,r22⟩:=RdA.at_ hSA (i:=i) hlt;obtain rfl:=r22;refine go 4 fun g5=>?_
    refine go 6 ?_;refine a1h (I':=I) (L':=[(1,.pointer (some ⟨g1,0,none⟩)),(3,.map (some r16)),(18,.slice S r.options.length d),(19,.int .i64 ((r.options.length:Nat):Int)),(20,.int .i64 ((i:Nat):Int)),(5,.pointer (some ⟨g5,0,none⟩)),(31,.bool (hit _root_.id (r.options.take i) r.options[i] || !a1t r.options[i]))]) (H':=[.blk g5 72 r.options[i].cells,.mp r16 (a2l d3i (a2Q _root_.id (fun _=>Value.bool true) (r.options.take i))),.blk g1 79 (r.cells (.slice S r.options.length d))]) ?_ ?_
    ·refine go 3 ?_;refine o_v rfl (c3b m1 (c6L) he he (r.options[i]) rfl rfl (a8P _root_.id _ _)) ?_;refine gS 1 27 (fun h27 p27=>?_) fun h27 p27=>?_
     ·refine go 6 ?_;exact a0h ⟨rfl,rfl,rfl,rfl,rfl,rfl,(bB (by simp only[h21,h27,bS])),trivial⟩ rfl rfl
     ·refine go 2 ?_;refine a0z rfl rfl h27 (a0x (b4J _ r.options[i] (hs _ (List.getElem_mem hlt))) rfl rfl ?_);refine go 4 ?_;exact a0h ⟨rfl,rfl,rfl,rfl,rfl,rfl,(bB (by simp only[h21,h27,bS])),trivial⟩ rfl rfl
    ·refine gC 0 (fun h31 p31=>?_) fun h31 p31=>?_
     ·refine go 13 ?_;exact q_v (congrArg Value.bool (by simp only[a0l,h15,a0R hlt (show a4y (r.options.take i) r.options[i]=false from (congrArg not h31).trans rfl),bS]))
     ·refine go 6 ?_;have h31n:hit _root_.id (r.options.take i) r.options[i]=false:=by revert h31;cases hit _root_.id (r.options.take i) r.options[i]<;>simp
      refine a0b ?_;refine a4l (a2Q _root_.id (fun _=>Value.bool true) (r.options.take (i+1))) (c6L) he (r.options[i]) rfl rfl rfl ((a9K _root_.id (fun _=>Value.bool true) (r.options.take i) r.options[i] (a7q h31n)).trans (by rw[a0e hlt])) ?_;refine go 8 ?_;refine a0b ?_;refine a0a ?_;exact a0s (i+1) ⟨oM,a0T hn hlt (show a4y (r.options.take i) r.options[i]=true from (congrArg not h31).trans rfl)⟩ oM rfl sb rfl
   ·refine go 12 ?_;have e:i=r.options.length:=oM;subst e;exact q_v (congrArg Value.bool (by simp only[a0l,hn,h15];rfl))
theorem a5l (I:IMap) (r:Rep) (S:Option Addr) (d:Nat) (hr:RdS I (.slice S r.options.length d) r.options) (hs:∀e∈r.options,SmE e) :
    FnV prog 90 #[.agg (r.cells (.slice S r.options.length d)).toArray] I (.int .i64 (chs r)):=by
 have hl5:=hr.lenLe;refine enter func90 call90 rfl ntmps90 rfl fun w0=>?_;refine go 4 fun g1=>?_
 refine go 9 ?_;refine cV (b2w _ r S d hr hs) ?_;refine gC 4 (fun h3 p3=>?_) fun h3 p3=>?_
 ·refine go 9 ?_;exact q_v (congrArg (Value.int .i64) (by simp only[chs,show a0l r=false by simpa using h3,Bool.true_eq_false,Bool.false_eq_true,if_true,if_false]))
 ·have hl4:=a2K (r:=r) (by simpa using h3);refine gC 7 (fun h7 p7=>?_) fun h7 p7=>?_
  ·refine go 5 ?_;refine o_v rfl (a2T rfl rfl ⟨oM,by have:=hl4;omega⟩) ?_;refine go 7 ?_;exact q_v (congrArg (Value.int .i64) (by simp only[chs,show a0l r=true by simpa using h3,h7,Bool.true_eq_false,Bool.false_eq_true,if_true,if_false]))
  ·refine go 13 ?_;exact q_v (congrArg (Value.int .i64) (by simp only[chs,show a0l r=true by simpa using h3,h7,Bool.true_eq_false,Bool.false_eq_true,if_true,if_false]))
theorem c0U (I:IMap) (vc:Value) (c:List Kind) (hvc:RdS I vc c) (hsc:SmC c) (v:Value) (l:List Rep) (hv:RdS I v l) (hsl:∀r∈l,∀e∈r.options,SmE e) (w:Value) (ch:List Int) (hw:RdS I w ch) (n:Int) :
    FnV prog 187 #[.agg #[vc],v,w,.int .i64 n] I (.bool (a1G c l ch n)):=by
 obtain⟨A,c0,rfl,hA,hc,hm⟩:=hv;obtain⟨B,c1,rfl,hB,hc1,hm1⟩:=hw;refine enter func187 call187 rfl ntmps187 rfl fun w0=>?_;refine go 4 fun g4=>?_
 refine go 5 ?_;refine a1h (I':=I) (L':=[(4,.pointer (some ⟨g4,0,none⟩)),(1,.slice A l.length c0),(2,.slice B ch.length c1),(3,.int .i64 n),(21,.bool (!a1a c || !decide (((ch.length:Nat):Int)=(l.length:Nat))))]) (H':=[.blk g4 24 [vc]]) ?_ ?_
 ·refine go 3 ?_;refine cV (a8H _ vc c hvc hsc) ?_;refine gS 2 15 (fun h15 p15=>?_) fun h15 p15=>?_
  ·refine go 8 ?_;exact a0h ⟨rfl,rfl,rfl,rfl,(bB (by simp only[h15,bS])),trivial⟩ rfl rfl
  ·refine go 8 ?_;exact a0h ⟨rfl,rfl,rfl,rfl,(bB (by simp only[h15,bS])),trivial⟩ rfl rfl
 ·refine gC 0 (fun h21 p21=>?_) fun h21 p21=>?_
  ·refine go 8 ?_;exact q_v (congrArg Value.bool (by simp only[a1G,h21];rfl))
  ·have hlc:ch.length=l.length:=by revert h21;simp;omega
   refine go 11 ?_
   refine a0w (α:=Nat) 0 (fun i=>I)
    (fun i=>[(4,.pointer (some ⟨g4,0,none⟩)),(1,.slice A l.length c0),(2,.slice B ch.length c1),(3,.int .i64 n),(22,.slice A l.length c0),(23,.int .i64 ((l.length:Nat):Int)),(24,.int .i64 ((i:Nat):Int))])
    (fun i=>[.blk g4 24 [vc]])
    (fun i=>i≤l.length∧a7a (a8l n) l ch i=true)
    (fun i=>l.length-i) ⟨Nat.zero_le _,rfl⟩ rfl sb rfl ?_
   intro i ⟨hi,hn⟩;refine gC 6 (fun h25 p25=>?_) fun h25 p25=>?_
   ·have hlt:i<l.length:=oM;have hlt2:i<ch.length:=oM;refine go 7 ?_;obtain⟨b27,o27,w27,e27,c27,r27⟩:=RdA.at_ hA (i:=i) hlt;obtain⟨q27,rfl,S27,d27,rfl,hS27,hd27,hm27⟩:=r27;refine go 4 fun g10=>?_
    refine go 9 ?_;refine cV (a5l _ l[i] S27 d27 ⟨_,_,rfl,hS27,hd27,hm27⟩ (hsl _ (List.getElem_mem hlt))) ?_;refine go 4 ?_;refine a1h (I':=I) (L':=[(4,.pointer (some ⟨g4,0,none⟩)),(1,.slice A l.length c0),(2,.slice B ch.length c1),(3,.int .i64 n),(22,.slice A l.length c0),(23,.int .i64 ((l.length:Nat):Int)),(24,.int .i64 ((i:Nat):Int)),(48,.bool ((decide (chs l[i]=0)||decide (ch[i]<n))||decide (chs l[i]≤ch[i])))]) (H':=[.blk g4 24 [vc]]) ?_ ?_
    ·refine gS 4 33 (fun h33 p33=>?_) fun h33 p33=>?_
     ·refine go 17 ?_;refine a0a ?_;exact a0h ⟨rfl,rfl,rfl,rfl,rfl,rfl,rfl,(bB (by simp only[h25,h33,bS])),trivial⟩ rfl rfl
     ·refine go 2 ?_;obtain⟨b36,o36,w36,e36,c36,r36⟩:=RdA.at_ hB (i:=i) hlt2;obtain rfl:=r36;refine a0P (a0z rfl rfl h33 (a0k rfl (a0i he rfl rfl e36 (i) oM hlt2) ?_));refine gS 5 41 (fun h41 p41=>?_) fun h41 p41=>?_
      ·refine go 9 ?_;refine a0a ?_;exact a0h ⟨rfl,rfl,rfl,rfl,rfl,rfl,rfl,(bB (by simp only[h25,h33,h41,bS])),trivial⟩ rfl rfl
      ·refine go 2 ?_;obtain⟨b44,o44,w44,e44,c44,r44⟩:=RdA.at_ hB (i:=i) hlt2;obtain rfl:=r44;refine a0P (a0z rfl rfl h41 (a0k rfl (a0i he rfl rfl e44 (i) oM hlt2) ?_));refine go 6 ?_;refine a0a ?_;exact a0h ⟨rfl,rfl,rfl,rfl,rfl,rfl,rfl,(bB (by simp only[h25,h33,h41,bS])),trivial⟩ rfl rfl
    ·refine gC 0 (fun h48 p48=>?_) fun h48 p48=>?_
     ·refine go 12 ?_;exact q_v (congrArg Value.bool (by simp only[a1G,h21,a7b (f:=a8l n) hlt hlt hlt2 (by simp only[a8l,h48];rfl),bS]))
     ·refine go 8 ?_;exact a0s (i+1) ⟨oM,a6k hn hlt hlt2 (by simp only[a8l,h48];rfl)⟩ oM rfl sb rfl
   ·refine go 12 ?_;have e:i=l.length:=oM;subst e;exact q_v (congrArg Value.bool (by simp only[a1G,hn,h21];rfl))
theorem d1s (I:IMap) (A B:Option Addr) (a c b d:Nat) :
    FnI prog 188 #[.slice A a c,.slice B b d] I (fun u J=>∃g2 g3,u = .func (.func 229) #[] #[.pointer (some ⟨g2,0,none⟩),.pointer (some ⟨g3,0,none⟩)]∧ICells J g2 0 [.slice A a c]∧ICells J g3 0 [.slice B b d]):=by
 refine enter func188 call188 rfl ntmps188 rfl fun w0=>?_;refine go 4 fun g2=>?_
 refine go 2 fun g3=>?_
 refine go 5 ?_;refine a0b ?_;refine a1Z fun Ig2 jg2 cg2=>?_;refine a1Z fun Ig3 jg3 cg3=>?_;have cg2:=(cg2).le jg3;refine go 6 ?_;exact q_i ⟨_,_,rfl,cg2,cg3⟩
theorem d1f (I:IMap) (v:Value) (l:List Rep) (hv:RdS I v l) (w:Value) (ch:List Int) (hw:RdS I w ch) (hlc:ch.length=l.length) (g2 g3:Nat) (c2:ICells I g2 0 [v]) (c3:ICells I g3 0 [w]) :
    d3e prog 229 [.pointer (some ⟨g2,0,none⟩),.pointer (some ⟨g3,0,none⟩)] I (fun _ vs (x:Int)=>vs=[ci x]) (fun pre x=>pre++[x] <+: a1w l ch l.length) (fun pre=>pre=a1w l ch l.length) (fun _=>True):=by
 obtain⟨A,c0,rfl,hA,hc,hm⟩:=hv;obtain⟨B,c1,rfl,hB,hc1,hm1⟩:=hw;intro ly J I1 Hc hI1 hJm hY hJ0;have hA:=hA.le hI1;have hB:=hB.le hI1;have c2:=c2.le hI1;have c3:=c3.le hI1;refine enter func229 call229 rfl ntmps229 rfl fun w0=>?_;refine go 8 ?_
 refine a2B ((0:Nat)) (I1) (Hc) (fun i I2 Hc=>I2)
  (fun i I2 Hc=>[(0,.func (.yield ly) #[] #[]),(1,.pointer (some ⟨g2,0,none⟩)),(2,.pointer (some ⟨g3,0,none⟩)),(8,.slice A l.length c0),(9,.int .i64 ((l.length:Nat):Int)),(10,.int .i64 ((i:Nat):Int))])
  (fun i I2 Hc=>Hc)
  (fun i I2 Hc=>i≤l.length∧ILe I1 I2∧J true (a1w l ch i) I2 Hc)
  (fun i I2 Hc=>l.length-i) ⟨Nat.zero_le _,ILe.refl _,hJ0⟩ rfl sb rfl ?_
 intro i I2 Hc ⟨hi,hI2,hJ⟩;have hA:=hA.le hI2;have hB:=hB.le hI2;have c3:=c3.le hI2;refine gC 6 (fun h11 p11=>?_) fun h11 p11=>?_
 ·have hlt:i<l.length:=oM;have hlt2:i<ch.length:=oM;refine go 7 ?_;obtain⟨b13,o13,w13,e13,c13,r13⟩:=RdA.at_ hA (i:=i) hlt;obtain⟨q13,rfl,S13,d13,rfl,hS13,hd13,hm13⟩:=r13;refine go 4 fun g5=>?_
  refine go 14 ?_
  refine a2B ((0:Nat)) (I2) (Hc) (fun j I3 Hc3=>I3)
   (fun j I3 Hc3=>[(0,.func (.yield ly) #[] #[]),(1,.pointer (some ⟨g2,0,none⟩)),(2,.pointer (some ⟨g3,0,none⟩)),(8,.slice A l.length c0),(9,.int .i64 ((l.length:Nat):Int)),(10,.int .i64 ((i:Nat):Int)),(4,.int .i64 ((i:Nat):Int)),(5,.pointer (some ⟨g5,0,none⟩)),(16,.slice S13 l[i].options.length d13),(17,.int .i64 ((l[i].options.length:Nat):Int)),(18,.int .i64 ((j:Nat):Int))])
   (fun j I3 Hc3=>.blk g5 79 (l[i].cells (.slice S13 l[i].options.length d13))::Hc3)
   (fun j I3 Hc3=>j≤l[i].options.length∧ILe I2 I3∧J true (a5f l ch i j) I3 Hc3)
   (fun j I3 Hc3=>l[i].options.length-j) ⟨Nat.zero_le _,ILe.refl _,by rw[b5m];exact hJ⟩ rfl sb rfl ?_
  intro j I3 Hc3 ⟨hj,hI3,hJ3⟩;have hB:=hB.le hI3;have c3:=c3.le hI3;have hS13:=hS13.le hI3;refine gC 6 (fun h19 p19=>?_) fun h19 p19=>?_
  ·have hlj:j<l[i].options.length:=oM;refine go 6 ?_;obtain⟨b20,o20,w20,e20,c20,r20⟩:=RdA.at_ hS13 (i:=j) hlj;obtain rfl:=r20;refine o_v rfl (a0i he rfl rfl e20 (j) oM hlj) ?_;refine go 3 fun g7=>?_
   refine go 8 ?_;obtain⟨b24,o24,w24,e24,c24,r24⟩:=RdA.at_ hB (i:=i) hlt2;obtain rfl:=r24;refine o_v rfl (a0i he rfl rfl e24 (i) oM hlt2) ?_;refine gS 3 27 (fun h27 p27=>?_) fun h27 p27=>?_
   ·refine go 4 ?_;refine a0z rfl rfl h27 (b6S (l[i].options[j].day) hY (hJm _ _ _ _ _ (ILe.refl _) hJ3) (rfl) (b8H hlt hlt2 p27 hlj) rfl rfl rfl (fun b31 I31 Hc31 j31 hJ31=>?_));refine gC 4 (fun h33 p33=>?_) fun h33 p33=>?_
    ·have hb31:b31=false:=by simpa using h33
     refine go 10 ?_;refine a0a ?_;refine a0a ?_;subst hb31;exact d0v false _ hJ31 trivial
    ·have hb31:b31=true:=by simpa using h33
     refine go 8 ?_;refine a0a ?_;exact a1r (j+1) (I31) (Hc31) ⟨oM,hI3.trans j31,by rw[a9U hlt hlt2 p27 hlj];exact hb31▸hJ31⟩ oM rfl sb rfl
   ·refine go 17 ?_;refine a0a ?_;exact a1r (j+1) (I3) (Hc3) ⟨oM,hI3,by rw[b5l hlt hlt2 p27 j];exact hJ3⟩ oM rfl sb rfl
  ·refine go 11 ?_;refine a0a ?_;exact a1r (i+1) (I3) (Hc3) ⟨oM,hI2.trans hI3,by rw[←b1g hlt hlt2];exact (show j=l[i].options.length from oM)▸hJ3⟩ oM rfl sb rfl
 ·have hil:i=l.length:=oM;refine go 5 ?_;exact d0v true _ hJ (by rw[hil];rfl)
end Go.Proofs.YtkndpfncklhhlaaGreat
