
import Derived.Test.YtdapmfkbpnjkmaaGreatZBob
namespace Go.Proofs.YtdapmfkbpnjkmaaGreat
open Go Go.Sx
set_option linter.all false
set_option maxRecDepth 20000
set_option maxHeartbeats 4000000
instance T.by_231:Has (a2y Tryz.prog 231) ([.string ⟨#[]⟩,.string ⟨#[]⟩],2,32):=⟨by kernel_rfl⟩
instance T.by_48:Has (a2y Tryz.prog 48) ([.string ⟨#[]⟩,.string ⟨#[]⟩,.string ⟨#[]⟩,.string ⟨#[]⟩,.int .i64 0,.int .i64 0,.bool false,.slice none 0 0,.int .i64 0,.int .i64 0,.int .i64 0,.int .i64 0,.int .i64 0,.int .i64 0],14,160):=⟨by kernel_rfl⟩
instance T.by_96:Has (a2y Tryz.prog 96) ([.int .i64 0,.int .i64 0,.string ⟨#[]⟩,.string ⟨#[]⟩,.string ⟨#[]⟩,.string ⟨#[]⟩,.string ⟨#[]⟩,.string ⟨#[]⟩,.int .i64 0,.int .i64 0,.int .i64 0,.int .i64 0,.int .i64 0,.int .i64 0],14,160):=⟨by kernel_rfl⟩
instance T.elt_42:Has (a8D Tryz.prog 42) (231,2):=⟨by kernel_rfl⟩
instance T.fld_118_0:Has (a3G Tryz.prog 118 0) (0,false,1):=⟨by kernel_rfl⟩
instance T.fld_118_1:Has (a3G Tryz.prog 118 1) (1,false,1):=⟨by kernel_rfl⟩
instance T.fld_231_0:Has (a3G Tryz.prog 231 0) (0,false,1):=⟨by kernel_rfl⟩
instance T.fld_231_1:Has (a3G Tryz.prog 231 1) (1,false,1):=⟨by kernel_rfl⟩
instance T.fld_46_0:Has (a3G Tryz.prog 46 0) (0,true,2):=⟨by kernel_rfl⟩
instance T.fld_46_1:Has (a3G Tryz.prog 46 1) (2,true,2):=⟨by kernel_rfl⟩
instance T.fld_46_2:Has (a3G Tryz.prog 46 2) (4,true,2):=⟨by kernel_rfl⟩
instance T.fld_48_0:Has (a3G Tryz.prog 48 0) (0,false,1):=⟨by kernel_rfl⟩
instance T.fld_48_1:Has (a3G Tryz.prog 48 1) (1,false,1):=⟨by kernel_rfl⟩
instance T.fld_48_2:Has (a3G Tryz.prog 48 2) (2,false,1):=⟨by kernel_rfl⟩
instance T.fld_48_3:Has (a3G Tryz.prog 48 3) (3,false,1):=⟨by kernel_rfl⟩
instance T.fld_48_4:Has (a3G Tryz.prog 48 4) (4,false,1):=⟨by kernel_rfl⟩
instance T.fld_48_5:Has (a3G Tryz.prog 48 5) (5,false,1):=⟨by kernel_rfl⟩
instance T.fld_48_6:Has (a3G Tryz.prog 48 6) (6,false,1):=⟨by kernel_rfl⟩
instance T.fld_48_7:Has (a3G Tryz.prog 48 7) (7,false,1):=⟨by kernel_rfl⟩
instance T.fld_48_8:Has (a3G Tryz.prog 48 8) (8,true,6):=⟨by kernel_rfl⟩
instance T.fld_53_0:Has (a3G Tryz.prog 53 0) (0,false,1):=⟨by kernel_rfl⟩
instance T.pl_118:Has (plK Tryz.prog 118) [(0,1),(1,1)]:=⟨by kernel_rfl⟩
instance T.pl_278:Has (plK Tryz.prog 278) [(0,1),(1,1)]:=⟨by kernel_rfl⟩
instance T.pl_48:Has (plK Tryz.prog 48) [(0,1),(1,1),(2,1),(3,1),(4,1),(5,1),(6,1),(7,1),(8,6)]:=⟨by kernel_rfl⟩
theorem T.sp_278:a9h Tryz.prog 278=true:=by kernel_rfl
instance T.ty_116:Has (tyK Tryz.prog 116) (false,1):=⟨by kernel_rfl⟩
instance T.ty_118:Has (tyK Tryz.prog 118) (true,2):=⟨by kernel_rfl⟩
instance T.ty_220:Has (tyK Tryz.prog 220) (false,1):=⟨by kernel_rfl⟩
instance T.ty_231:Has (tyK Tryz.prog 231) (true,2):=⟨by kernel_rfl⟩
instance T.ty_232:Has (tyK Tryz.prog 232) (false,1):=⟨by kernel_rfl⟩
instance T.ty_278:Has (tyK Tryz.prog 278) (true,2):=⟨by kernel_rfl⟩
instance T.ty_42:Has (tyK Tryz.prog 42) (false,1):=⟨by kernel_rfl⟩
instance T.ty_44:Has (tyK Tryz.prog 44) (true,2):=⟨by kernel_rfl⟩
instance T.ty_51:Has (tyK Tryz.prog 51) (false,1):=⟨by kernel_rfl⟩
instance T.ty_53:Has (tyK Tryz.prog 53) (true,1):=⟨by kernel_rfl⟩
instance T.und_116:Has (Tryz.prog.underlying 116) (.map 9 3):=⟨by kernel_rfl⟩
instance T.und_275:Has (Tryz.prog.underlying 275) (.map 278 4):=⟨by kernel_rfl⟩
instance T.und_293:Has (Tryz.prog.underlying 293) (.int .u64):=⟨by kernel_rfl⟩
instance T.und_4:Has (Tryz.prog.underlying 4) (.bool):=⟨by kernel_rfl⟩
instance T.und_42:Has (Tryz.prog.underlying 42) (.slice 231):=⟨by kernel_rfl⟩
instance T.zero_118:Has (a1Z Tryz.prog 118) [.slice none 0 0,.map none]:=⟨by kernel_rfl⟩
instance T.zero_231:Has (a1Z Tryz.prog 231) [.string ⟨#[]⟩,.string ⟨#[]⟩]:=⟨by kernel_rfl⟩
instance T.zero_278:Has (a1Z Tryz.prog 278) [.string ⟨#[]⟩,.string ⟨#[]⟩]:=⟨by kernel_rfl⟩
instance T.zero_48:Has (a1Z Tryz.prog 48) [.string ⟨#[]⟩,.string ⟨#[]⟩,.string ⟨#[]⟩,.string ⟨#[]⟩,.int .i64 0,.int .i64 0,.bool false,.slice none 0 0,.int .i64 0,.int .i64 0,.int .i64 0,.int .i64 0,.int .i64 0,.int .i64 0]:=⟨by kernel_rfl⟩
instance T.zv_3:Has (zvK Tryz.prog 3) (.int .i64 0):=⟨by kernel_rfl⟩
theorem d1A (I:IMap) (v:Value) (l:List Part) (hv:RdS I v l) :
    FnX Tryz.prog 67 #[.agg #[v]] I [] (fun u r=>∃g kvs,u = .agg #[v,.map (some g)]∧r = .mp g (a2t Value.string kvs)∧Ix kvs l∧(kvs.map Prod.fst).Nodup):=by
 have hv0:=hv
 obtain⟨A,c0,rfl,hA,hc,hm⟩:=hv;refine enter Tryz.func67 Tryz.call67 rfl Tryz.ntmps67 rfl (fun w0=>?_);refine go 3 ?_;refine a0B _ rfl rfl rfl (fun g1=>?_);refine go 1 ?_;refine a0h he rfl (fun g2=>?_);refine go 7 ?_;refine a7v (Value.string) he rfl (fun r10=>?_);refine go 1 ?_;refine a0l rfl (a0A (pl:=[(0,1),(1,1)]) he he rfl rfl) ?_;refine go 1 ?_;refine a0h he rfl (fun g3=>?_);refine go 1 ?_;refine a0m _ he rfl rfl rfl rfl rfl rfl ?_;refine go 12 ?_;refine a1k ?_;refine a1k ?_;refine a0u ?_;refine a1k ?_
 refine a1w ((0:Nat)) ([]) (fun i kvs=>I)
  (fun i kvs=>[(1,.pointer (some ⟨g1,0,none⟩)),(2,.pointer (some ⟨g2,0,none⟩)),(3,.pointer (some ⟨g3,0,none⟩)),(13,.slice A l.length c0),(14,.int .i64 (l.length:Int)),(15,.int .i64 (i:Int))])
  (fun i kvs=>[.mp r10 (a2t Value.string kvs),.blk g3 118 [.slice A l.length c0,.map (some r10)],.blk g2 118 [.slice none 0 0,.map none],.blk g1 53 [.slice A l.length c0]])
  (fun i kvs=>i≤l.length∧Ix kvs (l.take i)∧(kvs.map Prod.fst).Nodup)
  (fun i kvs=>l.length-i) ⟨Nat.zero_le _,Ix.nil,List.nodup_nil⟩ rfl sb rfl ?_
 intro i kvs ⟨hi,hx,hnd⟩;refine go 6 ?_;refine cb rfl (fun h16 p16=>?_) (fun h16 p16=>?_)
 ·have hlt:i<l.length:=by omega
  refine go 7 ?_;obtain⟨b18,o18,w18,e18,c18,r18⟩:=RdA.at_ hA (i:=i) hlt;obtain⟨q18,rfl,B18,d18,rfl,hB18,hd18,hm18⟩:=r18;refine o_v rfl (a0n he rfl rfl e18 (i) (by omega) hlt) ?_;refine o_v rfl (a0H he rfl c18 rfl) ?_;refine go 1 ?_;refine a0h he rfl (fun g5=>?_);refine go 2 ?_;refine a0m _ he rfl rfl rfl rfl rfl rfl ?_;refine go 8 ?_;refine o_v rfl (a8A m1 (a0R he) he he (l[i].name) rfl rfl rfl rfl) ?_;refine go 13 ?_;refine cb rfl (fun h29 p29=>?_) (fun h29 p29=>?_)
  ·refine go 7 ?_;refine a0g ?_;refine a4t (_) (a0R he) he (l[i].name) rfl rfl rfl (rfl) ?_;refine go 8 ?_;refine a0g ?_;refine a0b ?_;exact a0M (i+1) (_) ⟨by omega,by rw[←a0q hlt];exact hx.put (by rw[List.length_take];omega) (by simpa using h29),b8x hnd⟩ (by omega) rfl sb rfl
  ·refine go 8 ?_;refine a0b ?_;exact a0M (i+1) (_) ⟨by omega,by rw[←a0q hlt];exact hx.skip (by simpa using h29),hnd⟩ (by omega) rfl sb rfl
 ·refine go 9 ?_;refine a0u ?_;refine a0m _ he rfl rfl rfl rfl rfl rfl ?_;refine go 3 ?_;refine a0x rfl ⟨_,_,_,rfl,m0,.inr ⟨_,he,rfl,rfl⟩⟩ ?_;refine a0b ?_;refine a0g ?_;refine a0b ?_;refine a0g ?_;refine a0b ?_
  have e:i=l.length:=(by omega)
  subst e;rw[List.take_length]at hx
  exact q_x ⟨_,_,rfl,rfl,hx,hnd⟩
theorem c6Q (I:IMap) (v:Value) (l:List Part) (hv:RdS I v l) (r:Nat) (kvs:List (ByteArray×Value)) (hx:Ix kvs l) (s:ByteArray) :
    FnK Tryz.prog 68 #[.agg #[v,.map (some r)],.string s] I (.mp r (a2t Value.string kvs)) (PartIs I (a0O l s)):=by
 obtain⟨z,b,hz,hb,hfs,hfn⟩:=hx.look s;obtain⟨A,c0,rfl,hA,hc,hm⟩:=hv;refine enter Tryz.func68 Tryz.call68 rfl Tryz.ntmps68 rfl (fun w0=>?_);refine go 3 ?_;refine a0B _ rfl rfl rfl (fun g2=>?_);refine go 1 ?_;refine a0h he rfl (fun g4=>?_);refine go 8 ?_;refine o_v rfl (a8A m2 (a0R he) he he (s) rfl rfl hz hb) ?_;refine go 14 ?_;refine cb rfl (fun h16 p16=>?_) (fun h16 p16=>?_)
 ·have hN:=hfn (by simpa using h16)
  refine go 3 ?_;refine a0l rfl (a0A (pl:=[(0,1),(1,1),(2,1),(3,1),(4,1),(5,1),(6,1),(7,1),(8,6)]) he he rfl rfl) ?_;refine go 1 ?_;refine a0m _ he rfl rfl rfl rfl rfl rfl ?_;refine go 5 ?_;refine a2D rfl ⟨_,_,_,rfl,m0,.inr ⟨_,he,rfl,rfl⟩⟩ rfl ?_;refine a0b ?_;refine a0b ?_;exact q_k (PartIs.none hN)
 ·obtain⟨i,hi,rfl,hF⟩:=hfs (by simpa using h16);refine go 7 ?_;obtain⟨b21,o21,w21,e21,c21,r21⟩:=RdA.at_ hA (i:=i) hi;obtain⟨q21,rfl,B21,d21,rfl,hB21,hd21,hm21⟩:=r21;refine o_v rfl (a0n he rfl rfl e21 (i) rfl hi) ?_;refine o_v rfl (a0H he rfl c21 rfl) ?_;refine go 1 ?_;refine a0m _ he rfl rfl rfl rfl rfl rfl ?_;refine go 4 ?_;refine a2D rfl ⟨_,_,_,rfl,m0,.inr ⟨_,he,rfl,rfl⟩⟩ rfl ?_;refine a0b ?_;refine a0b ?_;exact q_k (PartIs.of hF ⟨_,rfl,B21,d21,rfl,hB21,hd21,hm21⟩)
theorem b3M (I:IMap) (v:Value) (l:List Part) (hv:RdS I v l) (f:FuncId) (nm:Part→ByteArray) (hp:∀x vs,Enc.rd I vs x→FnV Tryz.prog f #[.agg vs.toArray] I (.string (nm x))) :
    FnV Tryz.prog 211 #[v,.func (.func f) #[] #[]] I (.bool (b6Y nm l)):=by
 obtain⟨A,c0,rfl,hA,hc,hm⟩:=hv;refine enter Tryz.func211 Tryz.call211 rfl Tryz.ntmps211 rfl (fun w0=>?_);refine go 12 ?_
 refine a0L (α:=Nat) 1 (fun i=>I)
  (fun i=>[(0,.slice A l.length c0),(1,.func (.func f) #[] #[]),(5,.int .i64 (i:Int))])
  (fun i=>[])
  (fun i=>1≤i∧(i≤l.length∨i=1)∧a3A (a8K nm) l i=true)
  (fun i=>l.length-i) ⟨by omega,.inr rfl,b3L (nm:=nm) l⟩ rfl sb rfl ?_
 intro i ⟨h1,hi,hn⟩;refine go 9 ?_;refine cb rfl (fun h9 p9=>?_) (fun h9 p9=>?_)
 ·have hlt:i<l.length:=by omega
  refine go 5 ?_;refine a1h T.mixed ?_;refine a0f 0 rfl rfl (by kernel_rfl) rfl .slnil rfl (a0c rfl) ?_;refine a0f 1 rfl rfl (by kernel_rfl) rfl .slnil rfl (a0c rfl) ?_;refine a0f 2 rfl rfl (by kernel_rfl) rfl .slnil rfl (a0c rfl) ?_;refine a0f 3 rfl rfl (by kernel_rfl) rfl .slnil rfl (a1v rfl rfl ⟨by omega,by omega⟩) ?_;obtain⟨b16,o16,w16,e16,c16,r16⟩:=RdA.at_ hA (i:=i-1) (by omega);refine a0f 4 rfl rfl (by kernel_rfl) rfl .slnil rfl (a0n he rfl rfl e16 (i-1) (by omega) (by omega)) ?_;refine a0f 5 rfl rfl (by kernel_rfl) rfl .slnil rfl (a0H he rfl c16 (Enc.len r16)) ?_;refine a0f 7 rfl rfl (by kernel_rfl) rfl .slnil rfl (a0c rfl) ?_;refine a0f 8 rfl rfl (by kernel_rfl) rfl .slnil rfl (a0c rfl) ?_;refine a0f 9 rfl rfl (by kernel_rfl) rfl .slnil rfl (a0c rfl) ?_;obtain⟨b22,o22,w22,e22,c22,r22⟩:=RdA.at_ hA (i:=i) hlt;refine a0f 10 rfl rfl (by kernel_rfl) rfl .slnil rfl (a0n he rfl rfl e22 (i) (by omega) hlt) ?_;refine a0f 11 rfl rfl (by kernel_rfl) rfl .slnil rfl (a0H he rfl c22 (Enc.len r22)) ?_;refine a0i 6 (by kernel_rfl) rfl ?_;refine a0a (hp _ _ r16) rfl rfl ?_;refine a0r (fun _ m=>m.keeps .slnil) ?_;refine a0i 12 (by kernel_rfl) rfl ?_;refine a0a (hp _ _ r22) rfl rfl ?_;refine a0r (fun _ m=>m.keeps .slnil) ?_;refine a0f 13 rfl rfl (by kernel_rfl) rfl .slnil rfl (c2e rfl rfl) ?_;refine a0w (by kernel_rfl) ?_;refine go 1 ?_;refine cb rfl (fun h25 p25=>?_) (fun h25 p25=>?_)
  ·refine go 11 ?_;refine a0x rfl rfl ?_;exact q_v (congrArg Value.bool (c1f h1 hlt (by simpa using h25)).symm)
  ·refine go 9 ?_;exact a0J (i+1) ⟨by omega,.inl (by omega),b6Z h1 hlt hn (by simpa using h25)⟩ (by omega) rfl sb rfl
 ·refine go 11 ?_;refine a0x rfl rfl ?_;exact q_v (congrArg Value.bool (show b6Y nm l=true from b9d (by omega) hn).symm)
theorem b5s (I:IMap) (v:Value) (l:List Prp) (hv:RdS I v l) (f:FuncId) (nm:Prp→ByteArray) (hp:∀x vs,Enc.rd I vs x→FnV Tryz.prog f #[.agg vs.toArray] I (.string (nm x))) :
    FnV Tryz.prog 261 #[v,.func (.func f) #[] #[]] I (.bool (b6Y nm l)):=by
 obtain⟨A,c0,rfl,hA,hc,hm⟩:=hv;refine enter Tryz.func261 Tryz.call261 rfl Tryz.ntmps261 rfl (fun w0=>?_);refine go 12 ?_
 refine a0L (α:=Nat) 1 (fun i=>I)
  (fun i=>[(0,.slice A l.length c0),(1,.func (.func f) #[] #[]),(5,.int .i64 (i:Int))])
  (fun i=>[])
  (fun i=>1≤i∧(i≤l.length∨i=1)∧a3A (a8K nm) l i=true)
  (fun i=>l.length-i) ⟨by omega,.inr rfl,b3L (nm:=nm) l⟩ rfl sb rfl ?_
 intro i ⟨h1,hi,hn⟩;refine go 9 ?_;refine cb rfl (fun h9 p9=>?_) (fun h9 p9=>?_)
 ·have hlt:i<l.length:=by omega
  refine go 5 ?_;refine a1h T.mixed ?_;refine a0f 0 rfl rfl (by kernel_rfl) rfl .slnil rfl (a0c rfl) ?_;refine a0f 1 rfl rfl (by kernel_rfl) rfl .slnil rfl (a0c rfl) ?_;refine a0f 2 rfl rfl (by kernel_rfl) rfl .slnil rfl (a0c rfl) ?_;refine a0f 3 rfl rfl (by kernel_rfl) rfl .slnil rfl (a1v rfl rfl ⟨by omega,by omega⟩) ?_;obtain⟨b16,o16,w16,e16,c16,r16⟩:=RdA.at_ hA (i:=i-1) (by omega);refine a0f 4 rfl rfl (by kernel_rfl) rfl .slnil rfl (a0n he rfl rfl e16 (i-1) (by omega) (by omega)) ?_;refine a0f 5 rfl rfl (by kernel_rfl) rfl .slnil rfl (a0H he rfl c16 (Enc.len r16)) ?_;refine a0f 7 rfl rfl (by kernel_rfl) rfl .slnil rfl (a0c rfl) ?_;refine a0f 8 rfl rfl (by kernel_rfl) rfl .slnil rfl (a0c rfl) ?_;refine a0f 9 rfl rfl (by kernel_rfl) rfl .slnil rfl (a0c rfl) ?_;obtain⟨b22,o22,w22,e22,c22,r22⟩:=RdA.at_ hA (i:=i) hlt;refine a0f 10 rfl rfl (by kernel_rfl) rfl .slnil rfl (a0n he rfl rfl e22 (i) (by omega) hlt) ?_;refine a0f 11 rfl rfl (by kernel_rfl) rfl .slnil rfl (a0H he rfl c22 (Enc.len r22)) ?_;refine a0i 6 (by kernel_rfl) rfl ?_;refine a0a (hp _ _ r16) rfl rfl ?_;refine a0r (fun _ m=>m.keeps .slnil) ?_;refine a0i 12 (by kernel_rfl) rfl ?_;refine a0a (hp _ _ r22) rfl rfl ?_;refine a0r (fun _ m=>m.keeps .slnil) ?_;refine a0f 13 rfl rfl (by kernel_rfl) rfl .slnil rfl (c2e rfl rfl) ?_;refine a0w (by kernel_rfl) ?_;refine go 1 ?_;refine cb rfl (fun h25 p25=>?_) (fun h25 p25=>?_)
  ·refine go 11 ?_;refine a0x rfl rfl ?_;exact q_v (congrArg Value.bool (c1f h1 hlt (by simpa using h25)).symm)
  ·refine go 9 ?_;exact a0J (i+1) ⟨by omega,.inl (by omega),b6Z h1 hlt hn (by simpa using h25)⟩ (by omega) rfl sb rfl
 ·refine go 11 ?_;refine a0x rfl rfl ?_;exact q_v (congrArg Value.bool (show b6Y nm l=true from b9d (by omega) hn).symm)
theorem c1s (I:IMap) (x:Ivl) :
    FnV Tryz.prog 259 #[.agg x.cells.toArray] I (.bool (a3v x)):=by
 refine enter Tryz.func259 Tryz.call259 rfl Tryz.ntmps259 rfl (fun w0=>?_);refine go 3 ?_;refine a0B _ rfl rfl rfl (fun g1=>?_);refine go 9 ?_;refine sxb 6 rfl (fun h6 p6=>?_) (fun h6 p6=>?_)
 ·refine go 7 ?_;refine sxb 13 rfl (fun h13 p13=>?_) (fun h13 p13=>?_)
  ·refine go 8 ?_;refine a0x rfl rfl ?_;exact q_v (congrArg Value.bool (by simp only[a3v,h6,h13,bS]))
  ·refine go 8 ?_;refine a0x rfl rfl ?_;exact q_v (congrArg Value.bool (by simp only[a3v,h6,h13,bS]))
 ·refine go 15 ?_;refine a0x rfl rfl ?_;exact q_v (congrArg Value.bool (by simp only[a3v,h6,bS]))
theorem d0w (I:IMap) (x:Prp) (hs:Sm x.key) :
    FnV Tryz.prog 260 #[.agg x.cells.toArray] I (.bool (a6w x)):=by
 refine enter Tryz.func260 Tryz.call260 rfl Tryz.ntmps260 rfl (fun w0=>?_);refine go 3 ?_;refine a0B _ rfl rfl rfl (fun g1=>?_);refine go 8 ?_;refine a0a (a7Y _ _ hs) rfl rfl ?_;refine go 1 ?_;refine sxb 6 rfl (fun h6 p6=>?_) (fun h6 p6=>?_)
 ·refine go 5 ?_;refine sxb 11 rfl (fun h11 p11=>?_) (fun h11 p11=>?_)
  ·refine go 9 ?_;refine a0x rfl rfl ?_;exact q_v (congrArg Value.bool (by simp only[a6w,h6,h11,bS]))
  ·refine go 9 ?_;refine a0x rfl rfl ?_;exact q_v (congrArg Value.bool (by simp only[a6w,h6,h11,bS]))
 ·refine go 14 ?_;refine a0x rfl rfl ?_;exact q_v (congrArg Value.bool (by simp only[a6w,h6,bS]))
theorem d0x (I:IMap) (x:Prp) (vs:List Value) (h:Enc.rd I vs x) :
    FnV Tryz.prog 262 #[.agg vs.toArray] I (.string x.key):=by
 obtain rfl:=h;refine enter Tryz.func262 Tryz.call262 rfl Tryz.ntmps262 rfl (fun w0=>?_);refine go 3 ?_;refine a0B _ rfl rfl rfl (fun g1=>?_);refine go 11 ?_;refine a0x rfl rfl ?_;exact q_v rfl
theorem d0S (I:IMap) (x:Part) (vs:List Value) (h:Enc.rd I vs x) :
    FnV Tryz.prog 212 #[.agg vs.toArray] I (.string x.name):=by
 obtain⟨q,rfl,B,d,rfl,hB,hd,hm⟩:=h;refine enter Tryz.func212 Tryz.call212 rfl Tryz.ntmps212 rfl (fun w0=>?_);refine go 3 ?_;refine a0B _ rfl rfl rfl (fun g1=>?_);refine go 11 ?_;refine a0x rfl rfl ?_;exact q_v rfl
theorem c5W (I:IMap) (x:Part) (vs:List Value) (h:Enc.rd I vs x) :
    FnV Tryz.prog 147 #[.agg vs.toArray] I (.string x.name):=by
 obtain⟨q,rfl,B,d,rfl,hB,hd,hm⟩:=h;refine enter Tryz.func147 Tryz.call147 rfl Tryz.ntmps147 rfl (fun w0=>?_);refine go 3 ?_;refine a0B _ rfl rfl rfl (fun g1=>?_);refine go 11 ?_;refine a0x rfl rfl ?_;exact q_v rfl
theorem c8W (I:IMap) (x:Prp) (vs:List Value) (h:Enc.rd I vs x) :
    FnV Tryz.prog 155 #[.agg vs.toArray] I (.string x.key):=by
 obtain rfl:=h;refine enter Tryz.func155 Tryz.call155 rfl Tryz.ntmps155 rfl (fun w0=>?_);refine go 3 ?_;refine a0B _ rfl rfl rfl (fun g1=>?_);refine go 11 ?_;refine a0x rfl rfl ?_;exact q_v rfl
theorem c6R (I:IMap) (v:Value) (l:List Kind) (hv:RdS I v l) (p:Part) (D:Option Addr) (d:Nat) (hD:RdS I (.slice D p.props.length d) p.props) (hs:SmP p) :
    FnV Tryz.prog 213 #[.agg #[v],.agg (p.cells (.slice D p.props.length d)).toArray] I (.bool (a4n l p)):=by
 have hDA:RdA I D p.props:=(by obtain⟨_,_,e,h,_⟩:=hD;cases e;exact h)
 have hDl:p.props.length≤d∧d≤9223372036854775807:=(by obtain⟨_,_,e,h,h1,h2⟩:=hD;cases e;exact⟨h1,h2⟩)
 refine enter Tryz.func213 Tryz.call213 rfl Tryz.ntmps213 rfl (fun w0=>?_);refine go 3 ?_;refine a0B _ rfl rfl rfl (fun g2=>?_);refine go 1 ?_;refine a0B _ rfl rfl rfl (fun g3=>?_);refine go 20 ?_;refine a5f (b1R I _ l hv p.kind) rfl rfl (fun v15 q15=>?_);obtain⟨vs,rfl,ss,rfl,hsl⟩:=q15;refine go 4 ?_;refine a0h he rfl (fun g7=>?_);refine go 1 ?_;refine a0m _ he rfl rfl rfl rfl rfl (by simp[Kind.cells,hsl.one];exact⟨rfl,rfl⟩) ?_;refine go 4 ?_;refine a2z (I':=I) (L':=[(2,.pointer (some ⟨g2,0,none⟩)),(3,.pointer (some ⟨g3,0,none⟩)),(5,.func (.func 259) #[] #[]),(6,.func (.func 260) #[] #[]),(48,.bool (a5h l p))]) (H':=[.blk g3 48 (p.cells (.slice D p.props.length d)),.blk g2 24 [v]]) ?_ ?_
 ·refine go 4 ?_;refine sxb 20 rfl (fun h20 p20=>?_) (fun h20 p20=>?_)
  ·refine go 30 ?_;refine a0b ?_;exact a0E ⟨rfl,rfl,rfl,rfl,(congrArg (fun b=>some (Value.bool b)) (by simp only[a5h,h20,bS])),trivial⟩ rfl rfl
  ·refine go 3 ?_;refine a0y rfl rfl h20 (a0a (a7Y _ _ hs.1) rfl rfl ?_);refine go 3 ?_;refine sxb 26 rfl (fun h26 p26=>?_) (fun h26 p26=>?_)
   ·refine go 24 ?_;refine a0b ?_;exact a0E ⟨rfl,rfl,rfl,rfl,(congrArg (fun b=>some (Value.bool b)) (by simp only[a5h,h20,h26,bS])),trivial⟩ rfl rfl
   ·refine go 5 ?_;refine sxb 31 rfl (fun h31 p31=>?_) (fun h31 p31=>?_)
    ·refine go 19 ?_;refine a0b ?_;exact a0E ⟨rfl,rfl,rfl,rfl,(congrArg (fun b=>some (Value.bool b)) (by simp only[a5h,h20,h26,h31,bS])),trivial⟩ rfl rfl
    ·refine go 7 ?_;refine sxb 38 rfl (fun h38 p38=>?_) (fun h38 p38=>?_)
     ·refine go 12 ?_;refine a0b ?_;exact a0E ⟨rfl,rfl,rfl,rfl,(congrArg (fun b=>some (Value.bool b)) (by simp only[a5h,h20,h26,h31,h38,bS])),trivial⟩ rfl rfl
     ·refine go 5 ?_;refine sxb 43 rfl (fun h43 p43=>?_) (fun h43 p43=>?_)
      ·refine go 7 ?_;refine a0b ?_;exact a0E ⟨rfl,rfl,rfl,rfl,(congrArg (fun b=>some (Value.bool b)) (by simp only[a5h,h20,h26,h31,h38,h43,bS])),trivial⟩ rfl rfl
      ·refine go 7 ?_;refine a0b ?_;exact a0E ⟨rfl,rfl,rfl,rfl,(congrArg (fun b=>some (Value.bool b)) (by simp only[a5h,h20,h26,h31,h38,h43,bS])),trivial⟩ rfl rfl
 ·refine cb rfl (fun h48 p48=>?_) (fun h48 p48=>?_)
  ·refine go 7 ?_;refine a0x rfl rfl ?_;exact q_v (congrArg Value.bool (by simp only[a4n,h48];rfl))
  ·refine go 12 ?_
   refine a0L (α:=Nat) 0 (fun i=>I)
    (fun i=>[(2,.pointer (some ⟨g2,0,none⟩)),(3,.pointer (some ⟨g3,0,none⟩)),(5,.func (.func 259) #[] #[]),(6,.func (.func 260) #[] #[]),(50,.slice D p.props.length d),(51,.int .i64 (p.props.length:Int)),(52,.int .i64 (i:Int))])
    (fun i=>[.blk g3 48 (p.cells (.slice D p.props.length d)),.blk g2 24 [v]])
    (fun i=>i≤p.props.length∧a3A (fun _ q=>a6w q) p.props i=true)
    (fun i=>p.props.length-i) ⟨Nat.zero_le _,rfl⟩ rfl sb rfl ?_
   intro i ⟨hi,hn⟩;refine go 6 ?_;refine cb rfl (fun h53 p53=>?_) (fun h53 p53=>?_)
   ·have hlt:i<p.props.length:=by omega
    refine go 6 ?_;obtain⟨b54,o54,w54,e54,c54,r54⟩:=RdA.at_ hDA (i:=i) hlt;obtain rfl:=r54;refine o_v rfl (a0n he rfl rfl e54 (i) (by omega) hlt) ?_;refine o_v rfl (a0H he rfl c54 rfl) ?_;refine go 1 ?_;refine a0h he rfl (fun g10=>?_);refine go 1 ?_;refine a0m _ he rfl rfl rfl rfl rfl rfl ?_;refine go 7 ?_;refine a0a (d0w _ p.props[i] (hs.2 _ (List.getElem_mem hlt))) rfl rfl ?_;refine go 3 ?_;refine cb rfl (fun h59 p59=>?_) (fun h59 p59=>?_)
    ·refine go 11 ?_;refine a0x rfl rfl ?_;exact q_v (congrArg Value.bool (by simp only[a4n,h48,a1A (f:=fun _ q=>a6w q) hlt (by simpa using h59),bS]))
    ·refine go 8 ?_;refine a0b ?_;exact a0J (i+1) ⟨by omega,a1M hn hlt (by simpa using h59)⟩ (by omega) rfl sb rfl
   ·have hAll:a3A (fun _ q=>a6w q) p.props p.props.length=true:=(show i=p.props.length by omega)▸hn
    refine go 10 ?_;refine a0a (b5s _ _ p.props hD _ Prp.key (fun x vs hr=>d0x _ x vs hr)) rfl rfl ?_;refine go 1 ?_;refine sxb 64 rfl (fun h64 p64=>?_) (fun h64 p64=>?_)
    ·refine go 3 ?_;refine a0v (a0y rfl rfl h64 (a0l rfl (a2o (p.life.km.cells) m0 he rfl rfl rfl) ?_));refine go 1 ?_;refine a0y rfl rfl h64 (a0a (c1s _ p.life.km) rfl rfl ?_);refine go 2 ?_;refine sxb 71 rfl (fun h71 p71=>?_) (fun h71 p71=>?_)
     ·refine go 3 ?_;refine a0v (a0y rfl rfl h71 (a0l rfl (a2o (p.life.cycles.cells) m0 he rfl rfl rfl) ?_));refine go 1 ?_;refine a0y rfl rfl h71 (a0a (c1s _ p.life.cycles) rfl rfl ?_);refine go 2 ?_;refine sxb 78 rfl (fun h78 p78=>?_) (fun h78 p78=>?_)
      ·refine go 3 ?_;refine a0v (a0y rfl rfl h78 (a0l rfl (a2o (p.life.damage.cells) m0 he rfl rfl rfl) ?_));refine go 1 ?_;refine a0y rfl rfl h78 (a0a (c1s _ p.life.damage) rfl rfl ?_);refine go 5 ?_;refine a0x rfl rfl ?_;exact q_v (congrArg Value.bool (by simp only[a4n,h48,hAll,h53,h64,h71,h78,bS]))
      ·refine go 10 ?_;refine a0x rfl rfl ?_;exact q_v (congrArg Value.bool (by simp only[a4n,h48,hAll,h53,h64,h71,h78,bS]))
     ·refine go 17 ?_;refine a0x rfl rfl ?_;exact q_v (congrArg Value.bool (by simp only[a4n,h48,hAll,h53,h64,h71,bS]))
    ·refine go 24 ?_;refine a0x rfl rfl ?_;exact q_v (congrArg Value.bool (by simp only[a4n,h48,hAll,h53,h64,bS]))
theorem b6h (p q:ByteArray×ByteArray):eqV Tryz.prog 9 278 (b0L p) (b0L q)=some (decide (p=q)):=by
 have e:eqV Tryz.prog 9 278 (b0L p) (b0L q)=some (decide (p.1=q.1)&&(decide (p.2=q.2)&&true)):=by kernel_rfl
 rw[e];obtain⟨a,b⟩:=p;obtain⟨c,d⟩:=q
 simp
theorem c6S (I:IMap) (vc:Value) (c:List Kind) (hvc:RdS I vc c) (hsc:SmC c) (v:Value) (l:List Part) (hv:RdS I v l) (hsf:SmF l) :
    FnV Tryz.prog 144 #[.agg #[vc],.agg #[v]] I (.bool (a3x c l)):=by
 have hv0:=hv
 obtain⟨A,c0,rfl,hA,hc,hm⟩:=hv;refine enter Tryz.func144 Tryz.call144 rfl Tryz.ntmps144 rfl (fun w0=>?_);refine go 3 ?_;refine a0B _ rfl rfl rfl (fun g2=>?_);refine go 1 ?_;refine a0B _ rfl rfl rfl (fun g3=>?_);refine go 5 ?_;refine a2z (I':=I) (L':=[(2,.pointer (some ⟨g2,0,none⟩)),(3,.pointer (some ⟨g3,0,none⟩)),(26,.bool (b2P c l))]) (H':=[.blk g3 53 [.slice A l.length c0],.blk g2 24 [vc]]) ?_ ?_
 ·refine go 3 ?_;refine a0a (a8N _ _ c hvc hsc) rfl rfl ?_;refine go 2 ?_;refine sxb 15 rfl (fun h15 p15=>?_) (fun h15 p15=>?_)
  ·refine go 13 ?_;exact a0E ⟨rfl,rfl,(congrArg (fun b=>some (Value.bool b)) (by simp only[b2P,h15,bS])),trivial⟩ rfl rfl
  ·refine go 6 ?_;refine sxb 21 rfl (fun h21 p21=>?_) (fun h21 p21=>?_)
   ·refine go 7 ?_;exact a0E ⟨rfl,rfl,(congrArg (fun b=>some (Value.bool b)) (by simp only[b2P,h15,h21,bS])),trivial⟩ rfl rfl
   ·refine go 3 ?_;refine a0y rfl rfl h21 (a0a (b3M _ _ l hv0 _ Part.name (fun x vs hr=>d0S _ x vs hr)) rfl rfl ?_);refine go 4 ?_;exact a0E ⟨rfl,rfl,(congrArg (fun b=>some (Value.bool b)) (by simp only[b2P,h15,h21,bS])),trivial⟩ rfl rfl
 ·refine cb rfl (fun h26 p26=>?_) (fun h26 p26=>?_)
  ·refine go 7 ?_;refine a0x rfl rfl ?_;exact q_v (congrArg Value.bool (by simp only[a3x,h26];rfl))
  ·refine go 6 ?_;refine a3o (d1A _ _ l hv0) rfl rfl (fun v28 s28 q28=>?_);obtain⟨m28,kvs,rfl,rfl,hIx,_⟩:=q28;refine go 1 ?_;refine a0h he rfl (fun g5=>?_);refine go 1 ?_;refine a0m _ he rfl rfl rfl rfl rfl rfl ?_;refine go 5 ?_;refine a7v (b0L) he rfl (fun r29=>?_);refine go 13 ?_;refine a1o ?_;refine a1o ?_;refine a1k ?_;refine a1o ?_;refine a1o ?_
   refine a0L (α:=Nat) 0 (fun i=>I)
    (fun i=>[(2,.pointer (some ⟨g2,0,none⟩)),(3,.pointer (some ⟨g3,0,none⟩)),(5,.pointer (some ⟨g5,0,none⟩)),(6,.map (some r29)),(31,.slice A l.length c0),(32,.int .i64 (l.length:Int)),(33,.int .i64 (i:Int))])
    (fun i=>[.mp r29 (a2t b0L (a3d a2C (fun _=>.bool true) (a2V (l.take i)))),.mp m28 (a2t Value.string kvs),.blk g5 118 [.slice A l.length c0,.map (some m28)],.blk g3 53 [.slice A l.length c0],.blk g2 24 [vc]])
    (fun i=>i≤l.length∧a3A (a2J c l) l i=true)
    (fun i=>l.length-i) ⟨Nat.zero_le _,rfl⟩ rfl sb rfl ?_
   intro i ⟨hi,hn⟩;refine go 6 ?_;refine cb rfl (fun h34 p34=>?_) (fun h34 p34=>?_)
   ·have hlt:i<l.length:=by omega
    refine go 6 ?_;obtain⟨b35,o35,w35,e35,c35,r35⟩:=RdA.at_ hA (i:=i) hlt;obtain⟨q35,rfl,B35,d35,rfl,hB35,hd35,hm35⟩:=r35;refine o_v rfl (a0n he rfl rfl e35 (i) (by omega) hlt) ?_;refine o_v rfl (a0H he rfl c35 rfl) ?_;refine go 1 ?_;refine a0h he rfl (fun g8=>?_);refine go 1 ?_;refine a0m _ he rfl rfl rfl rfl rfl rfl ?_;refine go 4 ?_;refine a2z (I':=I) (L':=[(2,.pointer (some ⟨g2,0,none⟩)),(3,.pointer (some ⟨g3,0,none⟩)),(5,.pointer (some ⟨g5,0,none⟩)),(6,.map (some r29)),(31,.slice A l.length c0),(32,.int .i64 (l.length:Int)),(33,.int .i64 (i:Int)),(8,.pointer (some ⟨g8,0,none⟩)),(49,.bool (b2R c l[i]))]) (H':=[.blk g8 48 (l[i].cells (.slice B35 l[i].props.length d35)),.mp r29 (a2t b0L (a3d a2C (fun _=>.bool true) (a2V (l.take i)))),.mp m28 (a2t Value.string kvs),.blk g5 118 [.slice A l.length c0,.map (some m28)],.blk g3 53 [.slice A l.length c0],.blk g2 24 [vc]]) ?_ ?_
    ·refine go 4 ?_;refine a0a (c6R _ _ c hvc l[i] B35 d35 ⟨_,_,rfl,hB35,hd35,hm35⟩ (hsf _ (List.getElem_mem hlt))) rfl rfl ?_;refine go 2 ?_;refine sxb 41 rfl (fun h41 p41=>?_) (fun h41 p41=>?_)
     ·refine go 10 ?_;exact a0E ⟨rfl,rfl,rfl,rfl,rfl,rfl,rfl,rfl,(congrArg (fun b=>some (Value.bool b)) (by simp only[b2R,h34,h41,bS])),trivial⟩ rfl rfl
     ·refine go 6 ?_;refine a0v (a0y rfl rfl h41 (a0l rfl (c1X he rfl rfl) ?_));refine go 3 ?_;exact a0E ⟨rfl,rfl,rfl,rfl,rfl,rfl,rfl,rfl,(congrArg (fun b=>some (Value.bool b)) (by simp only[b2R,h34,h41,bS])),trivial⟩ rfl rfl
    ·refine cb rfl (fun h49 p49=>?_) (fun h49 p49=>?_)
     ·refine go 12 ?_;refine a0x rfl rfl ?_;exact q_v (congrArg Value.bool (by simp only[a3x,a1A hlt (show a2J c l (l.take i) l[i]=false by simp only[a2J,h49];rfl),bS]))
     ·refine go 10 ?_;refine cb rfl (fun h52 p52=>?_) (fun h52 p52=>?_)
      ·refine go 9 ?_;refine a0b ?_;exact a0J (i+1) ⟨by omega,a1M hn hlt (by simp only[a2J,h49,h52,bS])⟩ (by omega) rfl sb (by rw[b5G hlt p52])
      ·refine go 8 ?_;refine a0u ?_;refine a9Q (c6Q _ _ l hv0 m28 kvs hIx l[i].into) rfl rfl (fun v57 q57=>?_);obtain⟨vs,rfl,s57,rfl,hs57⟩:=q57;refine go 4 ?_;refine a0h he rfl (fun g9=>?_);refine go 1 ?_;refine a0m _ he rfl rfl rfl rfl rfl (Enc.one (α:=Part) (I:=I) (x:=(a0O l l[i].into).getD zPart) ⟨s57,rfl,hs57⟩) ?_;refine go 10 ?_;refine a0l rfl (a0A (pl:=[(0,1),(1,1)]) he he rfl rfl) ?_;refine go 1 ?_;refine a0h he rfl (fun g11=>?_);refine go 1 ?_;refine a0m _ he rfl rfl rfl rfl rfl rfl ?_;refine go 4 ?_;refine a2z (I':=I) (L':=[(2,.pointer (some ⟨g2,0,none⟩)),(3,.pointer (some ⟨g3,0,none⟩)),(5,.pointer (some ⟨g5,0,none⟩)),(6,.map (some r29)),(31,.slice A l.length c0),(32,.int .i64 (l.length:Int)),(33,.int .i64 (i:Int)),(8,.pointer (some ⟨g8,0,none⟩)),(11,.pointer (some ⟨g11,0,none⟩)),(90,.bool (a7P c l (l.take i) l[i]))]) (H':=[.blk g11 278 [.string l[i].into,.string l[i].slot],.blk g8 48 (l[i].cells (.slice B35 l[i].props.length d35)),.mp r29 (a2t b0L (a3d a2C (fun _=>.bool true) (a2V (l.take i)))),.mp m28 (a2t Value.string kvs),.blk g5 118 [.slice A l.length c0,.map (some m28)],.blk g3 53 [.slice A l.length c0],.blk g2 24 [vc]]) ?_ ?_
       ·refine go 4 ?_;refine sxb 67 rfl (fun h67 p67=>?_) (fun h67 p67=>?_)
        ·refine go 25 ?_;refine a0g ?_;refine a0b ?_;refine a1b ?_;refine a1b ?_;refine a1b ?_;refine a1o ?_;refine a1b ?_;refine a1b ?_;refine a1b ?_;exact a0E ⟨rfl,rfl,rfl,rfl,rfl,rfl,rfl,rfl,rfl,(congrArg (fun b=>some (Value.bool b)) (by simp only[a7P,h49,h52,h67,bS])),trivial⟩ rfl rfl
        ·refine go 4 ?_;refine sxb 71 rfl (fun h71 p71=>?_) (fun h71 p71=>?_)
         ·refine go 21 ?_;refine a0g ?_;refine a0b ?_;refine a1b ?_;refine a1b ?_;refine a1b ?_;refine a1o ?_;refine a1b ?_;refine a1b ?_;refine a1b ?_;exact a0E ⟨rfl,rfl,rfl,rfl,rfl,rfl,rfl,rfl,rfl,(congrArg (fun b=>some (Value.bool b)) (by simp only[a7P,h49,h52,h67,h71,bS])),trivial⟩ rfl rfl
         ·refine go 4 ?_;refine sxb 75 rfl (fun h75 p75=>?_) (fun h75 p75=>?_)
          ·refine go 17 ?_;refine a0g ?_;refine a0b ?_;refine a1b ?_;refine a1b ?_;refine a1b ?_;refine a1o ?_;refine a1b ?_;refine a1b ?_;refine a1b ?_;exact a0E ⟨rfl,rfl,rfl,rfl,rfl,rfl,rfl,rfl,rfl,(congrArg (fun b=>some (Value.bool b)) (by simp only[a7P,h49,h52,h67,h71,h75,bS])),trivial⟩ rfl rfl
          ·refine go 2 ?_;refine a0v (a0y rfl rfl h75 (a0l rfl (c1Z m4 (b6A T.sp_278 b6h) he he (a2C l[i]) rfl rfl (a8V a2C _ _)) ?_));refine go 2 ?_;refine sxb 80 rfl (fun h80 p80=>?_) (fun h80 p80=>?_)
           ·refine go 12 ?_;refine a0g ?_;refine a0b ?_;refine a1b ?_;refine a1b ?_;refine a1b ?_;refine a1o ?_;refine a1b ?_;refine a1b ?_;refine a1b ?_;exact a0E ⟨rfl,rfl,rfl,rfl,rfl,rfl,rfl,rfl,rfl,(congrArg (fun b=>some (Value.bool b)) (by simp only[a7P,h49,h52,h67,h71,h75,h80,bS])),trivial⟩ rfl rfl
           ·refine a0v (a0y rfl rfl h80 (a0l rfl (a4d m7 he rfl rfl) ?_));refine go 7 ?_;refine a0y rfl rfl h80 (a0a (b5X _ _ c hvc ((a0O l l[i].into).getD zPart).kind l[i].slot l[i].kind) rfl rfl ?_);refine go 4 ?_;refine a0g ?_;refine a0b ?_;refine a1b ?_;refine a1b ?_;refine a1b ?_;refine a1o ?_;refine a1b ?_;refine a1b ?_;refine a1b ?_;exact a0E ⟨rfl,rfl,rfl,rfl,rfl,rfl,rfl,rfl,rfl,(congrArg (fun b=>some (Value.bool b)) (by simp only[a7P,h49,h52,h67,h71,h75,h80,bS])),trivial⟩ rfl rfl
       ·refine cb rfl (fun h90 p90=>?_) (fun h90 p90=>?_)
        ·refine go 12 ?_;refine a0x rfl rfl ?_;exact q_v (congrArg Value.bool (by simp only[a3x,a1A hlt (show a2J c l (l.take i) l[i]=false by simp only[a2J,h52,h90];simp),bS]))
        ·refine go 6 ?_
         have h90n:hit a2C (a2V (l.take i)) (a2C l[i])=false:=by revert h90;simp only[a7P];cases hit a2C (a2V (l.take i)) (a2C l[i])<;>simp
         refine a0u ?_;refine a4t (a3d a2C (fun _=>.bool true) (a2V (l.take (i+1)))) (b6A T.sp_278 b6h) he (a2C l[i]) rfl rfl rfl ((a9J a2C (fun _=>.bool true) (a2V (l.take i)) l[i] (a7o h90n)).trans (by rw[b4f hlt p52])) ?_;refine go 8 ?_;refine a0g ?_;refine a0b ?_;refine a0g ?_;refine a0b ?_;exact a0J (i+1) ⟨by omega,a1M hn hlt (by simp only[a2J,h49,h90,bS])⟩ (by omega) rfl sb rfl
   ·refine go 11 ?_;refine a0x rfl rfl ?_
    have e:i=l.length:=(by omega)
    subst e;exact q_v (congrArg Value.bool (by simp only[a3x,h26,hn,bS]))
theorem b2U (I:IMap) (v:Value) (l:List Part) (hv:RdS I v l) (hl:l.length≤1000000) (s:ByteArray) (f:FuncId) (cs:List Value) (nm:Part→ByteArray) (hp:∀x vs,Enc.rd I vs x→FnV Tryz.prog f ([Value.agg vs.toArray,Value.string s]++cs).toArray I (.int .i64 (b9a (nm x) s))) (hs:Srt nm l) :
    FnV Tryz.prog 214 #[v,.string s,.func (.func f) #[] cs.toArray] I (.tuple #[.int .i64 (a5L nm l s:Nat),.bool (atF nm l s)]):=by
 obtain⟨A,c0,rfl,hA,hc,hm⟩:=hv;refine enter Tryz.func214 Tryz.call214 rfl Tryz.ntmps214 rfl (fun w0=>?_);refine go 22 ?_
 refine a1w ((0:Nat)) (l.length) (fun i j=>I)
  (fun i j=>[(0,.slice A l.length c0),(1,.string s),(2,.func (.func f) #[] cs.toArray),(8,.int .i64 (l.length:Int)),(9,.int .i64 (i:Int)),(10,.int .i64 (j:Int))])
  (fun i j=>[])
  (fun i j=>i≤j∧j≤l.length∧(∀q x,q<i→l[q]? = some x→sLt (nm x) s=true)∧(∀q x,j≤q→l[q]? = some x→sLt (nm x) s=false))
  (fun i j=>j-i) ⟨Nat.zero_le _,Nat.le_refl _,fun q x h=>absurd h (Nat.not_lt_zero q),fun q x h hx=>by rw[List.getElem?_eq_none h]at hx;cases hx⟩ rfl sb rfl ?_
 intro i j ⟨hij,hj,hlo,hhi⟩;refine go 8 ?_;refine cb rfl (fun h17 p17=>?_) (fun h17 p17=>?_)
 ·have hlt:(i+j) / 2<l.length:=by omega
  refine go 8 ?_;refine o_v rfl (a2k he he rfl (m:=(i:Int)+(j:Int)) (wrap_u64 _ (by omega) (by omega))) ?_;refine o_v rfl (a6A rfl (by decide)) ?_;refine o_v rfl (a2k he he rfl (m:=(((i+j) / 2:Nat):Int)) (by rw[IntKind.wrap_i64];omega)) ?_;refine go 8 ?_;obtain⟨b27,o27,w27,e27,c27,r27⟩:=RdA.at_ hA (i:=(i+j) / 2) hlt;refine o_v rfl (a0n he rfl rfl e27 ((i+j) / 2) (by omega) hlt) ?_;refine o_v rfl (a0H he rfl c27 (Enc.len r27)) ?_;refine go 2 ?_;refine a0a (hp _ _ r27) rfl rfl ?_;refine go 3 ?_;refine cb rfl (fun h31 p31=>?_) (fun h31 p31=>?_)
  ·refine go 7 ?_;exact a0M ((i+j) / 2+1) (j) ⟨by omega,hj,c9d hs hlt (a8P.1 p31),hhi⟩ (by omega) rfl sb rfl
  ·refine go 6 ?_;exact a0M (i) ((i+j) / 2) ⟨by omega,by omega,hlo,c9c hs hlt (by simpa[a8P]using p31)⟩ (by omega) rfl sb rfl
 ·have hpos:a5L nm l s=i:=b7c (by omega) hlo (fun q x hq hx=>hhi q x (by omega) hx)
  refine go 12 ?_;refine sxb 39 rfl (fun h39 p39=>?_) (fun h39 p39=>?_)
  ·have hlt:i<l.length:=by omega
   refine go 3 ?_;obtain⟨b43,o43,w43,e43,c43,r43⟩:=RdA.at_ hA (i:=i) hlt;refine a0v (a0y rfl rfl h39 (a0l rfl (a0n he rfl rfl e43 (i) (by omega) hlt) ?_));refine a0v (a0y rfl rfl h39 (a0l rfl (a0H he rfl c43 (Enc.len r43)) ?_));refine go 2 ?_;refine a0y rfl rfl h39 (a0a (hp _ _ r43) rfl rfl ?_);refine go 7 ?_;refine a2D rfl rfl rfl ?_;exact q_v (by rw[hpos,c8Y hpos hlt];simp only[b2Y])
  ·refine go 14 ?_;refine a2D rfl rfl rfl ?_;exact q_v (by rw[hpos,c5X hpos (by omega)])
theorem c1n (I:IMap) (x:Part) (vs:List Value) (h:Enc.rd I vs x) (s:ByteArray) (f:FuncId) (nm:Part→ByteArray) (hp:FnV Tryz.prog f #[.agg vs.toArray] I (.string (nm x))) (g:Nat) (hg:ICells I g 0 [.func (.func f) #[] #[]]) :
    FnV Tryz.prog 215 #[.agg vs.toArray,.string s,.pointer (some ⟨g,0,none⟩)] I (.int .i64 (b9a (nm x) s)):=by
 have hl:=Enc.len h
 refine enter Tryz.func215 Tryz.call215 rfl Tryz.ntmps215 rfl (fun w0=>?_);refine go 3 ?_;refine a0B _ rfl rfl rfl (fun g3=>?_);refine go 5 ?_;refine o_v rfl (a0W he rfl (hg 0 _ rfl)) ?_;refine o_v rfl (a4d m0 he rfl hl) ?_;refine go 1 ?_;refine a0a (hp) rfl rfl ?_;refine go 2 ?_;refine a0a (a6v _ _ _) rfl rfl ?_;refine go 4 ?_;refine a0x rfl rfl ?_;exact q_v rfl
theorem b4E (I:IMap) (v:Value) (l:List Prp) (hv:RdS I v l) (hl:l.length≤1000000) (s:ByteArray) (f:FuncId) (cs:List Value) (nm:Prp→ByteArray) (hp:∀x vs,Enc.rd I vs x→FnV Tryz.prog f ([Value.agg vs.toArray,Value.string s]++cs).toArray I (.int .i64 (b9a (nm x) s))) (hs:Srt nm l) :
    FnV Tryz.prog 221 #[v,.string s,.func (.func f) #[] cs.toArray] I (.tuple #[.int .i64 (a5L nm l s:Nat),.bool (atF nm l s)]):=by
 obtain⟨A,c0,rfl,hA,hc,hm⟩:=hv;refine enter Tryz.func221 Tryz.call221 rfl Tryz.ntmps221 rfl (fun w0=>?_);refine go 22 ?_
 refine a1w ((0:Nat)) (l.length) (fun i j=>I)
  (fun i j=>[(0,.slice A l.length c0),(1,.string s),(2,.func (.func f) #[] cs.toArray),(8,.int .i64 (l.length:Int)),(9,.int .i64 (i:Int)),(10,.int .i64 (j:Int))])
  (fun i j=>[])
  (fun i j=>i≤j∧j≤l.length∧(∀q x,q<i→l[q]? = some x→sLt (nm x) s=true)∧(∀q x,j≤q→l[q]? = some x→sLt (nm x) s=false))
  (fun i j=>j-i) ⟨Nat.zero_le _,Nat.le_refl _,fun q x h=>absurd h (Nat.not_lt_zero q),fun q x h hx=>by rw[List.getElem?_eq_none h]at hx;cases hx⟩ rfl sb rfl ?_
 intro i j ⟨hij,hj,hlo,hhi⟩;refine go 8 ?_;refine cb rfl (fun h17 p17=>?_) (fun h17 p17=>?_)
 ·have hlt:(i+j) / 2<l.length:=by omega
  refine go 8 ?_;refine o_v rfl (a2k he he rfl (m:=(i:Int)+(j:Int)) (wrap_u64 _ (by omega) (by omega))) ?_;refine o_v rfl (a6A rfl (by decide)) ?_;refine o_v rfl (a2k he he rfl (m:=(((i+j) / 2:Nat):Int)) (by rw[IntKind.wrap_i64];omega)) ?_;refine go 8 ?_;obtain⟨b27,o27,w27,e27,c27,r27⟩:=RdA.at_ hA (i:=(i+j) / 2) hlt;refine o_v rfl (a0n he rfl rfl e27 ((i+j) / 2) (by omega) hlt) ?_;refine o_v rfl (a0H he rfl c27 (Enc.len r27)) ?_;refine go 2 ?_;refine a0a (hp _ _ r27) rfl rfl ?_;refine go 3 ?_;refine cb rfl (fun h31 p31=>?_) (fun h31 p31=>?_)
  ·refine go 7 ?_;exact a0M ((i+j) / 2+1) (j) ⟨by omega,hj,c9d hs hlt (a8P.1 p31),hhi⟩ (by omega) rfl sb rfl
  ·refine go 6 ?_;exact a0M (i) ((i+j) / 2) ⟨by omega,by omega,hlo,c9c hs hlt (by simpa[a8P]using p31)⟩ (by omega) rfl sb rfl
 ·have hpos:a5L nm l s=i:=b7c (by omega) hlo (fun q x hq hx=>hhi q x (by omega) hx)
  refine go 12 ?_;refine sxb 39 rfl (fun h39 p39=>?_) (fun h39 p39=>?_)
  ·have hlt:i<l.length:=by omega
   refine go 3 ?_;obtain⟨b43,o43,w43,e43,c43,r43⟩:=RdA.at_ hA (i:=i) hlt;refine a0v (a0y rfl rfl h39 (a0l rfl (a0n he rfl rfl e43 (i) (by omega) hlt) ?_));refine a0v (a0y rfl rfl h39 (a0l rfl (a0H he rfl c43 (Enc.len r43)) ?_));refine go 2 ?_;refine a0y rfl rfl h39 (a0a (hp _ _ r43) rfl rfl ?_);refine go 7 ?_;refine a2D rfl rfl rfl ?_;exact q_v (by rw[hpos,c8Y hpos hlt];simp only[b2Y])
  ·refine go 14 ?_;refine a2D rfl rfl rfl ?_;exact q_v (by rw[hpos,c5X hpos (by omega)])
theorem c4e (I:IMap) (x:Prp) (vs:List Value) (h:Enc.rd I vs x) (s:ByteArray) (f:FuncId) (nm:Prp→ByteArray) (hp:FnV Tryz.prog f #[.agg vs.toArray] I (.string (nm x))) (g:Nat) (hg:ICells I g 0 [.func (.func f) #[] #[]]) :
    FnV Tryz.prog 222 #[.agg vs.toArray,.string s,.pointer (some ⟨g,0,none⟩)] I (.int .i64 (b9a (nm x) s)):=by
 have hl:=Enc.len h
 refine enter Tryz.func222 Tryz.call222 rfl Tryz.ntmps222 rfl (fun w0=>?_);refine go 3 ?_;refine a0B _ rfl rfl rfl (fun g3=>?_);refine go 5 ?_;refine o_v rfl (a0W he rfl (hg 0 _ rfl)) ?_;refine o_v rfl (a4d m0 he rfl hl) ?_;refine go 1 ?_;refine a0a (hp) rfl rfl ?_;refine go 2 ?_;refine a0a (a6v _ _ _) rfl rfl ?_;refine go 4 ?_;refine a0x rfl rfl ?_;exact q_v rfl
theorem b0I (I:IMap) (v:Value) (l:List Part) (hv:RdS I v l) (hl:l.length≤1000000) :
    FnX Tryz.prog 94 #[v] I [] (fun u r=>∃xss,r = .row u 48 14 l.length xss.flatten∧FlatC I xss l):=by
 have hv0:=hv
 obtain⟨A,c0,rfl,hA,hc,hm⟩:=hv;refine enter Tryz.func94 Tryz.call94 rfl Tryz.ntmps94 rfl (fun w0=>?_);refine go 9 ?_;refine o_v rfl (b2I he rfl) ?_;refine go 2 ?_;refine cb rfl (fun h4 p4=>?_) (fun h4 p4=>?_)
 ·obtain rfl:l=[]:=List.eq_nil_of_length_eq_zero (by rcases Nat.eq_zero_or_pos l.length with h|h;exact h;obtain⟨_,_,e,_⟩:=hA h;subst e;cases h4);refine a1s 48 14 ?_;refine go 7 ?_;refine a0x rfl rfl ?_;exact q_x ⟨[],rfl,.nil⟩
 ·refine go 5 ?_;refine a0e he he rfl rfl rfl rfl rfl rfl rfl (fun v5=>?_);refine go 2 ?_;refine a1l (hv0) rfl he he rfl rfl rfl rfl (by omega) (by omega) rfl (fun v7 x7 f7=>?_);refine go 4 ?_;refine a0x rfl rfl ?_;exact q_x (by obtain⟨xss,rfl,hx⟩:=FlatC.of f7;exact⟨xss,by rw[Nat.zero_add];rfl,hx⟩)
theorem b9C (I:IMap) (v:Value) (l:List Prp) (hv:RdS I v l) (hl:l.length≤1000000) :
    FnX Tryz.prog 223 #[v] I [] (fun u r=>∃xss,r = .row u 231 2 l.length xss.flatten∧FlatC I xss l):=by
 have hv0:=hv
 obtain⟨A,c0,rfl,hA,hc,hm⟩:=hv;refine enter Tryz.func223 Tryz.call223 rfl Tryz.ntmps223 rfl (fun w0=>?_);refine go 9 ?_;refine o_v rfl (b2I he rfl) ?_;refine go 2 ?_;refine cb rfl (fun h4 p4=>?_) (fun h4 p4=>?_)
 ·obtain rfl:l=[]:=List.eq_nil_of_length_eq_zero (by rcases Nat.eq_zero_or_pos l.length with h|h;exact h;obtain⟨_,_,e,_⟩:=hA h;subst e;cases h4);refine a1s 231 2 ?_;refine go 7 ?_;refine a0x rfl rfl ?_;exact q_x ⟨[],rfl,.nil⟩
 ·refine go 5 ?_;refine a0e he he rfl rfl rfl rfl rfl rfl rfl (fun v5=>?_);refine go 2 ?_;refine a1l (hv0) rfl he he rfl rfl rfl rfl (by omega) (by omega) rfl (fun v7 x7 f7=>?_);refine go 4 ?_;refine a0x rfl rfl ?_;exact q_x (by obtain⟨xss,rfl,hx⟩:=FlatC.of f7;exact⟨xss,by rw[Nat.zero_add];rfl,hx⟩)
theorem b9B (I:IMap) (v:Value) (l:List Evt) (hv:RdS I v l) (hl:l.length≤1000000) :
    FnX Tryz.prog 88 #[v] I [] (fun u r=>∃xss,r = .row u 96 14 l.length xss.flatten∧FlatC I xss l):=by
 have hv0:=hv
 obtain⟨A,c0,rfl,hA,hc,hm⟩:=hv;refine enter Tryz.func88 Tryz.call88 rfl Tryz.ntmps88 rfl (fun w0=>?_);refine go 9 ?_;refine o_v rfl (b2I he rfl) ?_;refine go 2 ?_;refine cb rfl (fun h4 p4=>?_) (fun h4 p4=>?_)
 ·obtain rfl:l=[]:=List.eq_nil_of_length_eq_zero (by rcases Nat.eq_zero_or_pos l.length with h|h;exact h;obtain⟨_,_,e,_⟩:=hA h;subst e;cases h4);refine a1s 96 14 ?_;refine go 7 ?_;refine a0x rfl rfl ?_;exact q_x ⟨[],rfl,.nil⟩
 ·refine go 5 ?_;refine a0e he he rfl rfl rfl rfl rfl rfl rfl (fun v5=>?_);refine go 2 ?_;refine a1l (hv0) rfl he he rfl rfl rfl rfl (by omega) (by omega) rfl (fun v7 x7 f7=>?_);refine go 4 ?_;refine a0x rfl rfl ?_;exact q_x (by obtain⟨xss,rfl,hx⟩:=FlatC.of f7;exact⟨xss,by rw[Nat.zero_add];rfl,hx⟩)
theorem a7V (args:Array Value) (w:World):(callFunc 263 args).run Tryz.prog w=((Extern.SlicesOverlaps.overlaps #[51,51] #[4] args).run Tryz.prog w).andThen fun v w'=>.ok (.value v) w':=by
 have h1:Extern.findNext Tryz.f263=none:=by kernel_rfl
 have h2:Extern.find Tryz.f263=some (Extern.SlicesOverlaps.overlaps #[51,51] #[4]):=by kernel_rfl
 have h3 : (Tryz.f263.name == "runtime.NumGoroutine") = false := by kernel_rfl
 have h4:Tryz.f263.body.isNone=true:=rfl
 simp only[callFunc,Sem.run_bind,run_program,Result.andThen_ok,Tryz.func263,h3,h4,h1,h2]
 simp
theorem b2o (I:IMap) (b g la ca lb cb o:Nat) (c:List Value) (cs:List Value) (tt:Nat) (B:Option Addr) (hB:B=some ⟨g,o,none⟩) (hb:I b=some (.cells c.toArray tt (0,0))) (hcs:cs.length≠0) :
  FnK Tryz.prog 263 #[.slice (some ⟨b,0,none⟩) la ca,.slice B lb cb] I (.blk g 48 cs) (fun u=>u = .bool false):=by
 subst hB;refine⟨fun w m=>?_⟩;unfold After
 have hg:w.heap[g]? = some (.cells cs.toArray 48 (0,0)):=m.blk
 have hbw:=m.con b _ hb
 have hne:b≠g:=by
  rintro rfl
  have:=(m.priv _ (List.mem_cons_self ..) b rfl).1
  rw[hb]at this;cases this
 rw[a7V,Lib.run_overlaps_apart (P:=Tryz.prog) w 51 4 48 he 14 (fun w=>(a1j he w).2) ⟨b,0,none⟩ ⟨g,o,none⟩ la ca lb cb hne tt 48 c.length cs.length (by simp[World.shape?,hbw]) (by simp[World.shape?,hg]) hcs (by simp[World.frozen?,hbw]) (by simp[World.frozen?,hbw])];exact⟨_,I,[_],rfl,m,rfl,rfl,rfl⟩
theorem b0z (I:IMap) (y:Value) (x:Part) (hy:RdS I y [x]) :
    FnX Tryz.prog 216 #[.slice none 0 0,.int .i64 0,y] I [] (fun u r=>∃zss,r = .row u 48 14 1 zss.flatten∧FlatC I zss [x]):=by
 have hy0:=hy
 obtain⟨Y,yc,rfl,hA,hc,hm⟩:=hy;refine enter Tryz.func216 Tryz.call216 rfl Tryz.ntmps216 rfl (fun w0=>?_);refine a1s 48 14 ?_;refine go 9 ?_;refine o_v rfl (a0U he rfl rfl 0 rfl (Nat.le_refl _)) ?_;refine go 16 ?_;refine a0P rfl ?_;refine go 17 ?_;refine a3c rfl ?_;refine go 5 ?_;refine a1l (hy0) rfl he he rfl rfl rfl rfl (by simp) (by simp) rfl (fun v25 x25 f25=>?_);refine go 5 ?_;refine a0x rfl rfl ?_;exact q_x (by obtain⟨xss,rfl,hx⟩:=FlatC.of f25;exact⟨xss,rfl,hx⟩)
theorem b0y (I:IMap) (l:List Part) (xss rest:List (List Value)) (g cap i b yc:Nat) (hx:FlatC I xss l) (hR:Uk 14 rest) (hcap:l.length+rest.length=cap) (hmax:cap≤maxLen) (hl:l.length≤1000000) (hi:i≤l.length) (x:Part) (c c2:List Value) (hb:I b=some (.cells (c++c2).toArray 48 (0,0))) (hc:Enc.rd I c x) (hyc:1≤yc) (hyc2:yc≤9223372036854775807) :
    FnX Tryz.prog 216 #[.slice (some ⟨g,0,none⟩) l.length cap,.int .i64 (i:Nat),.slice (some ⟨b,0,none⟩) 1 yc] I [(.blk g 48 (xss++rest).flatten)] (fun u r=>∃zss,r = .row u 48 14 (l.length+1) zss.flatten∧FlatC I zss (l.take i++x::l.drop i)):=by
 have hU:Uk 14 xss:=hx.uk
 have hlen:=hx.len
 have hV1:Uk 14 [c]:=(fun d hd=>by rw[List.mem_singleton.1 hd];exact Enc.len hc)
 have hcI:ICells I b 0 c:=(fun j u hu=>⟨_,_,_,hb,by rw[Nat.zero_add];simpa using (List.getElem?_append_left (List.getElem?_eq_some_iff.1 hu).1).trans hu⟩)
 have hY:RdS I (.slice (some ⟨b,0,none⟩) 1 yc) [x]:=⟨_,yc,rfl,fun _=>⟨b,0,rfl,fun q z hq=>by cases q with|zero=>(cases hq;exact⟨c,by simpa using hcI,hc⟩)|succ q=>simp at hq⟩,hyc,hyc2⟩
 refine enter Tryz.func216 Tryz.call216 rfl Tryz.ntmps216 rfl (fun w0=>?_);refine go 9 ?_;refine o_v rfl (a0U he rfl rfl i rfl hi) ?_;refine go 16 ?_;refine a0P rfl ?_;refine go 17 ?_;refine cb rfl (fun h22 p22=>?_) (fun h22 p22=>?_)
 ·obtain rfl:i=l.length:=by omega
  refine go 5 ?_;refine a2L hU hR hlen hcap hmax ?_;refine a1l (hY) rfl he he rfl rfl rfl rfl (by simp;omega) (by simp;omega) rfl (fun v25 x25 f25=>?_);refine go 5 ?_;refine a0x rfl rfl ?_;exact q_x (by obtain⟨zss,rfl,hz⟩:=FlatC.of f25;exact⟨xss++zss,by rw[List.flatten_append];rfl,by rw[List.take_length,List.drop_length];exact hx.append hz⟩)
 ·refine go 9 ?_;refine o_v rfl (c4T he rfl) ?_;refine go 3 ?_;refine cb rfl (fun h31 p31=>?_) (fun h31 p31=>?_)
  ·refine go 4 ?_;refine o_v rfl (a2E he rfl rfl i rfl (by omega)) ?_;refine go 4 ?_;refine o_v rfl (OV.cast (u:=.int .i64 ((l.length+1-i:Nat):Int)) (a1v rfl rfl ⟨by omega,by omega⟩) (congrArg (Value.int .i64) (by omega))) ?_;refine go 1 ?_;refine a8w (xss.take i) he he he rfl rfl rfl rfl (hU.append hR) (by rw[List.length_take];omega) (hU.take i) (fun _=>⟨rfl,by rw[List.take_append_of_le_length (by omega)]⟩) (by omega) (by omega) (by omega) (by unfold maxLen;omega) rfl (fun g40 r40 hr40=>?_);refine go 7 ?_;refine o_v rfl (a0U he rfl rfl i rfl (by omega)) ?_;refine go 2 ?_
   have hU1:Uk 14 (xss.take i++List.replicate (l.length+1-i+r40) _):=(hU.take i).append (Uk.rep (c:=[.string ⟨#[]⟩,.string ⟨#[]⟩,.string ⟨#[]⟩,.string ⟨#[]⟩,.int .i64 0,.int .i64 0,.bool false,.slice none 0 0,.int .i64 0,.int .i64 0,.int .i64 0,.int .i64 0,.int .i64 0,.int .i64 0]) rfl _)
   refine a7u [c] i he rfl rfl (by simp;omega) hU1 hV1 (by simpa using Enc.one hc) (fun _=>a1V (by omega)) (fun _=>⟨b,0,rfl,fun w mm j u hu=>(hcI j u (by simpa using hu)).at_ mm.con⟩) (by simp;omega) rfl ?_;refine go 3 ?_;refine a1t T.mixed ?_;refine a0f 0 rfl rfl (by kernel_rfl) rfl (.cons _ (.refl _)) rfl (a0c rfl) ?_;refine a0f 1 rfl rfl (by kernel_rfl) rfl (.cons _ (.refl _)) rfl (a0c rfl) ?_;refine a0f 2 rfl rfl (by kernel_rfl) rfl (.cons _ (.refl _)) rfl (a0c rfl) ?_;refine a0f 3 rfl rfl (by kernel_rfl) rfl (.cons _ (.refl _)) rfl (a2c rfl rfl ⟨by omega,by omega⟩) ?_;refine a0f 4 rfl rfl (by kernel_rfl) rfl (.cons _ (.refl _)) rfl (a0U he rfl rfl (i+1) (by omega) (by omega)) ?_;refine a0f 5 rfl rfl (by kernel_rfl) rfl (.cons _ (.refl _)) rfl (a0c rfl) ?_;refine a0f 6 rfl rfl (by kernel_rfl) rfl (.cons _ (.refl _)) rfl (a0c rfl) ?_;refine a0f 7 rfl rfl (by kernel_rfl) rfl (.cons _ (.refl _)) rfl (a0U he rfl rfl i rfl (by omega)) ?_;refine a0i 8 (by kernel_rfl) rfl ?_
   have hU2:=((hU1.take i).append (hV1.append (hU1.drop (i+[c].length))))
   refine a7u (xss.drop i) (i+1) he rfl rfl (by simp;omega) hU2 (hU.drop i) (hx.drop i).one (fun _=>a1V (by omega)) (fun h=>⟨g,i * 14,a1V (by simp at h;omega),fun w mm j u hu=>b2A (o:=i) (m:=l.length-i) m1 (hU.append hR) w mm j u (by rw[List.drop_append_of_le_length (by omega),List.take_append_of_le_length (by simp;omega),List.take_of_length_le (by simp;omega)];exact hu)⟩) (by simp;omega) rfl ?_;refine a0r (fun _ m=>m.keeps (.cons _ (.refl _))) ?_;refine a0w (by kernel_rfl) ?_;refine go 9 ?_;refine a0x rfl rfl ?_;refine a0g ?_;refine a0b ?_;refine a4N (b6w hlen hi (by omega)) ?_;refine a2L (m:=i+(l.length+1-i)) (cap:=i+(l.length+1-i)+r40) ((hU.take i).append (fun d hd=>by rcases List.mem_cons.1 hd with rfl|hd;exact Enc.len hc;exact hU.drop i d hd)) (Uk.rep rfl _) (by simp<;>omega) (by simp<;>omega) (by omega) ?_;exact q_x (by exact⟨_,by congr 1<;>omega,(hx.take i).append (.cons hc (hx.drop i))⟩)
  ·have hr1:0<rest.length:=by omega
   refine go 8 ?_;refine o_v rfl (a2E he rfl rfl (l.length+1) (by omega) (by omega)) ?_;refine go 11 ?_;refine o_v rfl (a0U he rfl rfl (i+1) (by omega) (by omega)) ?_;refine go 1 ?_;refine a9Q (b2o I b g 1 yc _ _ _ (c++c2) _ 48 _ (a1V (k:=14) (show i+1<cap by omega)) hb (by rw[a3l (hU.append hR),List.length_append];omega)) rfl rfl (fun v67 q67=>?_);obtain rfl:=q67;refine go 3 ?_;refine a3c rfl ?_;refine go 1 ?_;refine a1t T.mixed ?_;refine a0f 0 rfl rfl (by kernel_rfl) rfl (.cons _ .slnil) rfl (a0c rfl) ?_;refine a0f 1 rfl rfl (by kernel_rfl) rfl (.cons _ .slnil) rfl (a0c rfl) ?_;refine a0f 2 rfl rfl (by kernel_rfl) rfl (.cons _ .slnil) rfl (a0c rfl) ?_;refine a0f 3 rfl rfl (by kernel_rfl) rfl (.cons _ .slnil) rfl (a2c rfl rfl ⟨by omega,by omega⟩) ?_;refine a0f 4 rfl rfl (by kernel_rfl) rfl (.cons _ .slnil) rfl (a0U he rfl rfl (i+1) (by omega) (by omega)) ?_;refine a0f 5 rfl rfl (by kernel_rfl) rfl (.cons _ .slnil) rfl (a0c rfl) ?_;refine a0f 6 rfl rfl (by kernel_rfl) rfl (.cons _ .slnil) rfl (a0c rfl) ?_;refine a0f 7 rfl rfl (by kernel_rfl) rfl (.cons _ .slnil) rfl (a0U he rfl rfl i rfl (by omega)) ?_;refine a0i 8 (by kernel_rfl) rfl ?_;refine a7u (((xss++rest).drop i).take (l.length-i)) (i+1) he rfl rfl (by simp;omega) (hU.append hR) (((hU.append hR).drop i).take _) (by rw[List.drop_append_of_le_length (by omega),List.take_append_of_le_length (by simp;omega)];exact ((hx.drop i).take _).one) (fun _=>a1V (by omega)) (fun h=>⟨g,i * 14,a1V (by omega),fun w mm j u hu=>b2A (o:=i) m0 (hU.append hR) w mm j u hu⟩) (by simp;omega) rfl ?_;refine a0r (fun _ m=>m.keeps (.cons _ .slnil)) ?_;refine a0w (by kernel_rfl) ?_;refine go 5 ?_;refine o_v rfl (a0U he rfl rfl i rfl (by omega)) ?_;refine go 2 ?_
   have hU3:=(((hU.append hR).take (i+1)).append ((((hU.append hR).drop i).take (l.length-i)).append ((hU.append hR).drop (i+1+(((xss++rest).drop i).take (l.length-i)).length))))
   refine a7u [c] i he rfl rfl (by simp;omega) hU3 hV1 (by simpa using Enc.one hc) (fun _=>a1V (by omega)) (fun _=>⟨b,0,rfl,fun w mm j u hu=>(hcI j u (by simpa using hu)).at_ mm.con⟩) (by simp;omega) rfl ?_;refine go 10 ?_;refine a0x rfl rfl ?_;refine a4N (b3m hlen hi hr1) ?_;refine a2L (m:=l.length+1) (cap:=cap) ((hU.take i).append (fun d hd=>by rcases List.mem_cons.1 hd with rfl|hd;exact Enc.len hc;exact hU.drop i d hd)) (hR.drop 1) (by simp<;>omega) (by simp<;>omega) hmax ?_;exact q_x (by exact⟨_,by congr 1<;>omega,(hx.take i).append (.cons hc (hx.drop i))⟩)
theorem a8F (args:Array Value) (w:World):(callFunc 269 args).run Tryz.prog w=((Extern.SlicesOverlaps.overlaps #[42,42] #[4] args).run Tryz.prog w).andThen fun v w'=>.ok (.value v) w':=by
 have h1:Extern.findNext Tryz.f269=none:=by kernel_rfl
 have h2:Extern.find Tryz.f269=some (Extern.SlicesOverlaps.overlaps #[42,42] #[4]):=by kernel_rfl
 have h3 : (Tryz.f269.name == "runtime.NumGoroutine") = false := by kernel_rfl
 have h4:Tryz.f269.body.isNone=true:=rfl
 simp only[callFunc,Sem.run_bind,run_program,Result.andThen_ok,Tryz.func269,h3,h4,h1,h2]
 simp
theorem b3N (I:IMap) (b g la ca lb cb o:Nat) (c:List Value) (cs:List Value) (tt:Nat) (B:Option Addr) (hB:B=some ⟨g,o,none⟩) (hb:I b=some (.cells c.toArray tt (0,0))) (hcs:cs.length≠0) :
  FnK Tryz.prog 269 #[.slice (some ⟨b,0,none⟩) la ca,.slice B lb cb] I (.blk g 231 cs) (fun u=>u = .bool false):=by
 subst hB;refine⟨fun w m=>?_⟩;unfold After
 have hg:w.heap[g]? = some (.cells cs.toArray 231 (0,0)):=m.blk
 have hbw:=m.con b _ hb
 have hne:b≠g:=by
  rintro rfl
  have:=(m.priv _ (List.mem_cons_self ..) b rfl).1
  rw[hb]at this;cases this
 rw[a8F,Lib.run_overlaps_apart (P:=Tryz.prog) w 42 4 231 he 2 (fun w=>(a1j he w).2) ⟨b,0,none⟩ ⟨g,o,none⟩ la ca lb cb hne tt 231 c.length cs.length (by simp[World.shape?,hbw]) (by simp[World.shape?,hg]) hcs (by simp[World.frozen?,hbw]) (by simp[World.frozen?,hbw])];exact⟨_,I,[_],rfl,m,rfl,rfl,rfl⟩
theorem b2d (I:IMap) (y:Value) (x:Prp) (hy:RdS I y [x]) :
    FnX Tryz.prog 224 #[.slice none 0 0,.int .i64 0,y] I [] (fun u r=>∃zss,r = .row u 231 2 1 zss.flatten∧FlatC I zss [x]):=by
 have hy0:=hy
 obtain⟨Y,yc,rfl,hA,hc,hm⟩:=hy;refine enter Tryz.func224 Tryz.call224 rfl Tryz.ntmps224 rfl (fun w0=>?_);refine a1s 231 2 ?_;refine go 9 ?_;refine o_v rfl (a0U he rfl rfl 0 rfl (Nat.le_refl _)) ?_;refine go 16 ?_;refine a0P rfl ?_;refine go 17 ?_;refine a3c rfl ?_;refine go 5 ?_;refine a1l (hy0) rfl he he rfl rfl rfl rfl (by simp) (by simp) rfl (fun v25 x25 f25=>?_);refine go 5 ?_;refine a0x rfl rfl ?_;exact q_x (by obtain⟨xss,rfl,hx⟩:=FlatC.of f25;exact⟨xss,rfl,hx⟩)
theorem b2c (I:IMap) (l:List Prp) (xss rest:List (List Value)) (g cap i b yc:Nat) (hx:FlatC I xss l) (hR:Uk 2 rest) (hcap:l.length+rest.length=cap) (hmax:cap≤maxLen) (hl:l.length≤1000000) (hi:i≤l.length) (x:Prp) (c c2:List Value) (hb:I b=some (.cells (c++c2).toArray 231 (0,0))) (hc:Enc.rd I c x) (hyc:1≤yc) (hyc2:yc≤9223372036854775807) :
    FnX Tryz.prog 224 #[.slice (some ⟨g,0,none⟩) l.length cap,.int .i64 (i:Nat),.slice (some ⟨b,0,none⟩) 1 yc] I [(.blk g 231 (xss++rest).flatten)] (fun u r=>∃zss,r = .row u 231 2 (l.length+1) zss.flatten∧FlatC I zss (l.take i++x::l.drop i)):=by
 have hU:Uk 2 xss:=hx.uk
 have hlen:=hx.len
 have hV1:Uk 2 [c]:=(fun d hd=>by rw[List.mem_singleton.1 hd];exact Enc.len hc)
 have hcI:ICells I b 0 c:=(fun j u hu=>⟨_,_,_,hb,by rw[Nat.zero_add];simpa using (List.getElem?_append_left (List.getElem?_eq_some_iff.1 hu).1).trans hu⟩)
 have hY:RdS I (.slice (some ⟨b,0,none⟩) 1 yc) [x]:=⟨_,yc,rfl,fun _=>⟨b,0,rfl,fun q z hq=>by cases q with|zero=>(cases hq;exact⟨c,by simpa using hcI,hc⟩)|succ q=>simp at hq⟩,hyc,hyc2⟩
 refine enter Tryz.func224 Tryz.call224 rfl Tryz.ntmps224 rfl (fun w0=>?_);refine go 9 ?_;refine o_v rfl (a0U he rfl rfl i rfl hi) ?_;refine go 16 ?_;refine a0P rfl ?_;refine go 17 ?_;refine cb rfl (fun h22 p22=>?_) (fun h22 p22=>?_)
 ·obtain rfl:i=l.length:=by omega
  refine go 5 ?_;refine a2L hU hR hlen hcap hmax ?_;refine a1l (hY) rfl he he rfl rfl rfl rfl (by simp;omega) (by simp;omega) rfl (fun v25 x25 f25=>?_);refine go 5 ?_;refine a0x rfl rfl ?_;exact q_x (by obtain⟨zss,rfl,hz⟩:=FlatC.of f25;exact⟨xss++zss,by rw[List.flatten_append];rfl,by rw[List.take_length,List.drop_length];exact hx.append hz⟩)
 ·refine go 9 ?_;refine o_v rfl (c4T he rfl) ?_;refine go 3 ?_;refine cb rfl (fun h31 p31=>?_) (fun h31 p31=>?_)
  ·refine go 4 ?_;refine o_v rfl (a2E he rfl rfl i rfl (by omega)) ?_;refine go 4 ?_;refine o_v rfl (OV.cast (u:=.int .i64 ((l.length+1-i:Nat):Int)) (a1v rfl rfl ⟨by omega,by omega⟩) (congrArg (Value.int .i64) (by omega))) ?_;refine go 1 ?_;refine a8w (xss.take i) he he he rfl rfl rfl rfl (hU.append hR) (by rw[List.length_take];omega) (hU.take i) (fun _=>⟨rfl,by rw[List.take_append_of_le_length (by omega)]⟩) (by omega) (by omega) (by omega) (by unfold maxLen;omega) rfl (fun g40 r40 hr40=>?_);refine go 7 ?_;refine o_v rfl (a0U he rfl rfl i rfl (by omega)) ?_;refine go 2 ?_
   have hU1:Uk 2 (xss.take i++List.replicate (l.length+1-i+r40) _):=(hU.take i).append (Uk.rep (c:=[.string ⟨#[]⟩,.string ⟨#[]⟩]) rfl _)
   refine a7u [c] i he rfl rfl (by simp;omega) hU1 hV1 (by simpa using Enc.one hc) (fun _=>a1V (by omega)) (fun _=>⟨b,0,rfl,fun w mm j u hu=>(hcI j u (by simpa using hu)).at_ mm.con⟩) (by simp;omega) rfl ?_;refine go 3 ?_;refine a1t T.mixed ?_;refine a0f 0 rfl rfl (by kernel_rfl) rfl (.cons _ (.refl _)) rfl (a0c rfl) ?_;refine a0f 1 rfl rfl (by kernel_rfl) rfl (.cons _ (.refl _)) rfl (a0c rfl) ?_;refine a0f 2 rfl rfl (by kernel_rfl) rfl (.cons _ (.refl _)) rfl (a0c rfl) ?_;refine a0f 3 rfl rfl (by kernel_rfl) rfl (.cons _ (.refl _)) rfl (a2c rfl rfl ⟨by omega,by omega⟩) ?_;refine a0f 4 rfl rfl (by kernel_rfl) rfl (.cons _ (.refl _)) rfl (a0U he rfl rfl (i+1) (by omega) (by omega)) ?_;refine a0f 5 rfl rfl (by kernel_rfl) rfl (.cons _ (.refl _)) rfl (a0c rfl) ?_;refine a0f 6 rfl rfl (by kernel_rfl) rfl (.cons _ (.refl _)) rfl (a0c rfl) ?_;refine a0f 7 rfl rfl (by kernel_rfl) rfl (.cons _ (.refl _)) rfl (a0U he rfl rfl i rfl (by omega)) ?_;refine a0i 8 (by kernel_rfl) rfl ?_
   have hU2:=((hU1.take i).append (hV1.append (hU1.drop (i+[c].length))))
   refine a7u (xss.drop i) (i+1) he rfl rfl (by simp;omega) hU2 (hU.drop i) (hx.drop i).one (fun _=>a1V (by omega)) (fun h=>⟨g,i * 2,a1V (by simp at h;omega),fun w mm j u hu=>b2A (o:=i) (m:=l.length-i) m1 (hU.append hR) w mm j u (by rw[List.drop_append_of_le_length (by omega),List.take_append_of_le_length (by simp;omega),List.take_of_length_le (by simp;omega)];exact hu)⟩) (by simp;omega) rfl ?_;refine a0r (fun _ m=>m.keeps (.cons _ (.refl _))) ?_;refine a0w (by kernel_rfl) ?_;refine go 9 ?_;refine a0x rfl rfl ?_;refine a0g ?_;refine a0b ?_;refine a4N (b6w hlen hi (by omega)) ?_;refine a2L (m:=i+(l.length+1-i)) (cap:=i+(l.length+1-i)+r40) ((hU.take i).append (fun d hd=>by rcases List.mem_cons.1 hd with rfl|hd;exact Enc.len hc;exact hU.drop i d hd)) (Uk.rep rfl _) (by simp<;>omega) (by simp<;>omega) (by omega) ?_;exact q_x (by exact⟨_,by congr 1<;>omega,(hx.take i).append (.cons hc (hx.drop i))⟩)
  ·have hr1:0<rest.length:=by omega
   refine go 8 ?_;refine o_v rfl (a2E he rfl rfl (l.length+1) (by omega) (by omega)) ?_;refine go 11 ?_;refine o_v rfl (a0U he rfl rfl (i+1) (by omega) (by omega)) ?_;refine go 1 ?_;refine a9Q (b3N I b g 1 yc _ _ _ (c++c2) _ 231 _ (a1V (k:=2) (show i+1<cap by omega)) hb (by rw[a3l (hU.append hR),List.length_append];omega)) rfl rfl (fun v67 q67=>?_);obtain rfl:=q67;refine go 3 ?_;refine a3c rfl ?_;refine go 1 ?_;refine a1t T.mixed ?_;refine a0f 0 rfl rfl (by kernel_rfl) rfl (.cons _ .slnil) rfl (a0c rfl) ?_;refine a0f 1 rfl rfl (by kernel_rfl) rfl (.cons _ .slnil) rfl (a0c rfl) ?_;refine a0f 2 rfl rfl (by kernel_rfl) rfl (.cons _ .slnil) rfl (a0c rfl) ?_;refine a0f 3 rfl rfl (by kernel_rfl) rfl (.cons _ .slnil) rfl (a2c rfl rfl ⟨by omega,by omega⟩) ?_;refine a0f 4 rfl rfl (by kernel_rfl) rfl (.cons _ .slnil) rfl (a0U he rfl rfl (i+1) (by omega) (by omega)) ?_;refine a0f 5 rfl rfl (by kernel_rfl) rfl (.cons _ .slnil) rfl (a0c rfl) ?_;refine a0f 6 rfl rfl (by kernel_rfl) rfl (.cons _ .slnil) rfl (a0c rfl) ?_;refine a0f 7 rfl rfl (by kernel_rfl) rfl (.cons _ .slnil) rfl (a0U he rfl rfl i rfl (by omega)) ?_;refine a0i 8 (by kernel_rfl) rfl ?_;refine a7u (((xss++rest).drop i).take (l.length-i)) (i+1) he rfl rfl (by simp;omega) (hU.append hR) (((hU.append hR).drop i).take _) (by rw[List.drop_append_of_le_length (by omega),List.take_append_of_le_length (by simp;omega)];exact ((hx.drop i).take _).one) (fun _=>a1V (by omega)) (fun h=>⟨g,i * 2,a1V (by omega),fun w mm j u hu=>b2A (o:=i) m0 (hU.append hR) w mm j u hu⟩) (by simp;omega) rfl ?_;refine a0r (fun _ m=>m.keeps (.cons _ .slnil)) ?_;refine a0w (by kernel_rfl) ?_;refine go 5 ?_;refine o_v rfl (a0U he rfl rfl i rfl (by omega)) ?_;refine go 2 ?_
   have hU3:=(((hU.append hR).take (i+1)).append ((((hU.append hR).drop i).take (l.length-i)).append ((hU.append hR).drop (i+1+(((xss++rest).drop i).take (l.length-i)).length))))
   refine a7u [c] i he rfl rfl (by simp;omega) hU3 hV1 (by simpa using Enc.one hc) (fun _=>a1V (by omega)) (fun _=>⟨b,0,rfl,fun w mm j u hu=>(hcI j u (by simpa using hu)).at_ mm.con⟩) (by simp;omega) rfl ?_;refine go 10 ?_;refine a0x rfl rfl ?_;refine a4N (b3m hlen hi hr1) ?_;refine a2L (m:=l.length+1) (cap:=cap) ((hU.take i).append (fun d hd=>by rcases List.mem_cons.1 hd with rfl|hd;exact Enc.len hc;exact hU.drop i d hd)) (hR.drop 1) (by simp<;>omega) (by simp<;>omega) hmax ?_;exact q_x (by exact⟨_,by congr 1<;>omega,(hx.take i).append (.cons hc (hx.drop i))⟩)
theorem b5e (I:IMap) (v:Value) (l:List Part) (xss:List (List Value)) (i b yc:Nat) (hx:FlatC I xss l) (hl:l.length≤1000000) (hi:i≤l.length) (x:Part) (c c2:List Value) (hb:I b=some (.cells (c++c2).toArray 48 (0,0))) (hc:Enc.rd I c x) (hyc:1≤yc) (hyc2:yc≤9223372036854775807) :
  FnX Tryz.prog 216 #[v,.int .i64 (i:Nat),.slice (some ⟨b,0,none⟩) 1 yc] I [.row v 48 14 l.length xss.flatten] (fun u r=>∃zss,r = .row u 48 14 (l.length+1) zss.flatten∧FlatC I zss (l.take i++x::l.drop i)):=
 FnX.of_row (args:=fun v=>[v,.int .i64 (i:Nat),.slice (some ⟨b,0,none⟩) 1 yc]) hx.uk hx.len (fun h0=>by
  obtain rfl:=List.eq_nil_of_length_eq_zero h0;obtain rfl:i=0:=by simp at hi;omega
  have hcI:ICells I b 0 c:=(fun j u hu=>⟨_,_,_,hb,by rw[Nat.zero_add];simpa using (List.getElem?_append_left (List.getElem?_eq_some_iff.1 hu).1).trans hu⟩)
  exact b0z I _ x ⟨_,yc,rfl,fun _=>⟨b,0,rfl,fun q z hq=>by cases q with|zero=>(cases hq;exact⟨c,by simpa using hcI,hc⟩)|succ q=>simp at hq⟩,hyc,hyc2⟩)
  (fun g cap rest h1 h2 h3=>b0y I l xss rest g cap i b yc hx h1 h2 h3 hl hi x c c2 hb hc hyc hyc2)
theorem c4f (I:IMap) (v:Value) (l:List Part) (hv:RdS I v l) (hl:l.length≤1000000) (x:Part) (B:Option Addr) (d:Nat) (hr:Enc.rd I (x.cells (.slice B x.props.length d)) x) (f:FuncId) (nm:Part→ByteArray) (hp:∀J,ILe I J→∀y vs,Enc.rd J vs y→FnV Tryz.prog f #[.agg vs.toArray] J (.string (nm y))) (hs:Srt nm l) :
    FnI Tryz.prog 146 #[v,.agg (x.cells (.slice B x.props.length d)).toArray,.func (.func f) #[] #[]] I (fun u J=>RdS J u (a4i nm l x)):=by
 refine enter Tryz.func146 Tryz.call146 rfl Tryz.ntmps146 rfl (fun w0=>?_);refine go 3 ?_;refine a0B _ rfl rfl rfl (fun g4=>?_);refine go 1 ?_;refine a0B _ rfl rfl rfl (fun g5=>?_);refine go 9 ?_;refine a0a (hp _ (ILe.refl _) x _ hr) rfl rfl ?_;refine a2f (fun Ig5 jg5 cg5=>?_)
 have hv:=hv.le jg5
 have hr:=Enc.mono jg5 hr
 refine o_v rfl (a1a rfl rfl) ?_;refine go 1 ?_;refine a0a (b2U Ig5 v l hv hl (nm x) _ [.pointer (some ⟨g5,0,none⟩)] nm (fun y vs hr=>c1n _ y vs hr (nm x) f nm (hp _ jg5 y vs hr) g5 cg5) hs) rfl rfl ?_;refine go 11 ?_;refine a3o (b0I _ v l hv hl) rfl rfl (fun v20 s20 q20=>?_);obtain⟨xss,rfl,hx⟩:=q20;refine go 9 ?_;refine cb rfl (fun h21 p21=>?_) (fun h21 p21=>?_)
 ·have hlt:=c5j h21
  refine a8z hx.uk hx.len (fun h0 _=>absurd hlt (by omega)) (fun g20 cap20 rest20 e20 hr20 hc20 hm20=>?_);subst e20;refine go 5 ?_;refine o_v rfl (a0n he rfl rfl rfl (a5L nm l (nm x)) (by omega) hlt) ?_;refine go 1 ?_;refine a2b _ (a5L nm l (nm x)) (hx.uk.append hr20) he rfl rfl rfl rfl (Enc.one hr) (Nat.zero_add _) (by rw[List.length_append,hx.len];omega) ?_;refine a4N (List.set_append_left _ _ (by rw[hx.len];exact hlt)) ?_;refine a2L (m:=l.length) (cap:=cap20) (hx.uk.set rfl _) hr20 (by simp[hx.len]) hc20 hm20 ?_;refine go 10 ?_;refine a0x rfl rfl ?_;refine a0o (l:=l.set (a5L nm l (nm x)) x) rfl (by simp) ((hx.set hr _).flat) (fun I9 j9 R9=>?_);exact q_i (by simp only[a4i,h21,if_true];exact R9)
 ·refine go 8 ?_;refine a0e he he rfl rfl rfl rfl rfl rfl rfl (fun v30=>?_);refine a8z (xss:=[x.cells (.slice B x.props.length d)]) (fun d hd=>by rw[List.mem_singleton.1 hd];rfl) rfl (fun h=>absurd h (by decide)) (fun b30 cap30 rest30 e30 hr30 hc30 hm30=>?_);subst e30;refine c1L (fun I30 j30 B30=>?_)
  have hx:=hx.le j30
  have hv:=hv.le j30
  have hr:=Enc.mono j30 hr
  refine go 1 ?_;refine a1u (b5e _ _ l xss (a5L nm l (nm x)) b30 cap30 hx hl (b7d _ _ _) x _ rest30.flatten B30 hr (by omega) (by unfold maxLen at hm30;omega)) rfl rfl (fun v31 s31 q31=>?_);obtain⟨zss,rfl,hz⟩:=q31;refine go 4 ?_;refine a0x rfl rfl ?_;refine a0o (l:=l.take (a5L nm l (nm x))++x::l.drop (a5L nm l (nm x))) rfl (by have:=b7d nm l (nm x);simp;omega) hz.flat (fun I9 j9 R9=>?_);exact q_i (by simp only[a4i,h21];exact R9)
theorem b8n (I:IMap) (v:Value) (l:List Prp) (xss:List (List Value)) (i b yc:Nat) (hx:FlatC I xss l) (hl:l.length≤1000000) (hi:i≤l.length) (x:Prp) (c c2:List Value) (hb:I b=some (.cells (c++c2).toArray 231 (0,0))) (hc:Enc.rd I c x) (hyc:1≤yc) (hyc2:yc≤9223372036854775807) :
  FnX Tryz.prog 224 #[v,.int .i64 (i:Nat),.slice (some ⟨b,0,none⟩) 1 yc] I [.row v 231 2 l.length xss.flatten] (fun u r=>∃zss,r = .row u 231 2 (l.length+1) zss.flatten∧FlatC I zss (l.take i++x::l.drop i)):=
 FnX.of_row (args:=fun v=>[v,.int .i64 (i:Nat),.slice (some ⟨b,0,none⟩) 1 yc]) hx.uk hx.len (fun h0=>by
  obtain rfl:=List.eq_nil_of_length_eq_zero h0;obtain rfl:i=0:=by simp at hi;omega
  have hcI:ICells I b 0 c:=(fun j u hu=>⟨_,_,_,hb,by rw[Nat.zero_add];simpa using (List.getElem?_append_left (List.getElem?_eq_some_iff.1 hu).1).trans hu⟩)
  exact b2d I _ x ⟨_,yc,rfl,fun _=>⟨b,0,rfl,fun q z hq=>by cases q with|zero=>(cases hq;exact⟨c,by simpa using hcI,hc⟩)|succ q=>simp at hq⟩,hyc,hyc2⟩)
  (fun g cap rest h1 h2 h3=>b2c I l xss rest g cap i b yc hx h1 h2 h3 hl hi x c c2 hb hc hyc hyc2)
theorem c7S (I:IMap) (v:Value) (l:List Prp) (hv:RdS I v l) (hl:l.length≤1000000) (x:Prp)  (hr:Enc.rd I (x.cells) x) (f:FuncId) (nm:Prp→ByteArray) (hp:∀J,ILe I J→∀y vs,Enc.rd J vs y→FnV Tryz.prog f #[.agg vs.toArray] J (.string (nm y))) (hs:Srt nm l) :
    FnI Tryz.prog 154 #[v,.agg (x.cells).toArray,.func (.func f) #[] #[]] I (fun u J=>RdS J u (a4i nm l x)):=by
 refine enter Tryz.func154 Tryz.call154 rfl Tryz.ntmps154 rfl (fun w0=>?_);refine go 3 ?_;refine a0B _ rfl rfl rfl (fun g4=>?_);refine go 1 ?_;refine a0B _ rfl rfl rfl (fun g5=>?_);refine go 9 ?_;refine a0a (hp _ (ILe.refl _) x _ hr) rfl rfl ?_;refine a2f (fun Ig5 jg5 cg5=>?_)
 have hv:=hv.le jg5
 have hr:=Enc.mono jg5 hr
 refine o_v rfl (a1a rfl rfl) ?_;refine go 1 ?_;refine a0a (b4E Ig5 v l hv hl (nm x) _ [.pointer (some ⟨g5,0,none⟩)] nm (fun y vs hr=>c4e _ y vs hr (nm x) f nm (hp _ jg5 y vs hr) g5 cg5) hs) rfl rfl ?_;refine go 11 ?_;refine a3o (b9C _ v l hv hl) rfl rfl (fun v20 s20 q20=>?_);obtain⟨xss,rfl,hx⟩:=q20;refine go 9 ?_;refine cb rfl (fun h21 p21=>?_) (fun h21 p21=>?_)
 ·have hlt:=c5j h21
  refine a8z hx.uk hx.len (fun h0 _=>absurd hlt (by omega)) (fun g20 cap20 rest20 e20 hr20 hc20 hm20=>?_);subst e20;refine go 5 ?_;refine o_v rfl (a0n he rfl rfl rfl (a5L nm l (nm x)) (by omega) hlt) ?_;refine go 1 ?_;refine a2b _ (a5L nm l (nm x)) (hx.uk.append hr20) he rfl rfl rfl rfl (Enc.one hr) (Nat.zero_add _) (by rw[List.length_append,hx.len];omega) ?_;refine a4N (List.set_append_left _ _ (by rw[hx.len];exact hlt)) ?_;refine a2L (m:=l.length) (cap:=cap20) (hx.uk.set rfl _) hr20 (by simp[hx.len]) hc20 hm20 ?_;refine go 10 ?_;refine a0x rfl rfl ?_;refine a0o (l:=l.set (a5L nm l (nm x)) x) rfl (by simp) ((hx.set hr _).flat) (fun I9 j9 R9=>?_);exact q_i (by simp only[a4i,h21,if_true];exact R9)
 ·refine go 8 ?_;refine a0e he he rfl rfl rfl rfl rfl rfl rfl (fun v30=>?_);refine a8z (xss:=[x.cells]) (fun d hd=>by rw[List.mem_singleton.1 hd];rfl) rfl (fun h=>absurd h (by decide)) (fun b30 cap30 rest30 e30 hr30 hc30 hm30=>?_);subst e30;refine c1L (fun I30 j30 B30=>?_)
  have hx:=hx.le j30
  have hv:=hv.le j30
  have hr:=Enc.mono j30 hr
  refine go 1 ?_;refine a1u (b8n _ _ l xss (a5L nm l (nm x)) b30 cap30 hx hl (b7d _ _ _) x _ rest30.flatten B30 hr (by omega) (by unfold maxLen at hm30;omega)) rfl rfl (fun v31 s31 q31=>?_);obtain⟨zss,rfl,hz⟩:=q31;refine go 4 ?_;refine a0x rfl rfl ?_;refine a0o (l:=l.take (a5L nm l (nm x))++x::l.drop (a5L nm l (nm x))) rfl (by have:=b7d nm l (nm x);simp;omega) hz.flat (fun I9 j9 R9=>?_);exact q_i (by simp only[a4i,h21];exact R9)
end Go.Proofs.YtdapmfkbpnjkmaaGreat
namespace Go.Proofs.YtdapmfkbpnjkmaaGreat
open Go Go.Sx
set_option linter.all false
set_option maxRecDepth 20000
set_option maxHeartbeats 4000000
instance T.pl_231:Has (plK Tryz.prog 231) [(0,1),(1,1)]:=⟨by kernel_rfl⟩
instance T.pl_46:Has (plK Tryz.prog 46) [(0,2),(2,2),(4,2)]:=⟨by kernel_rfl⟩
instance T.pl_53:Has (plK Tryz.prog 53) [(0,1)]:=⟨by kernel_rfl⟩
instance T.ty_46:Has (tyK Tryz.prog 46) (true,6):=⟨by kernel_rfl⟩
instance T.zero_46:Has (a1Z Tryz.prog 46) [.int .i64 0,.int .i64 0,.int .i64 0,.int .i64 0,.int .i64 0,.int .i64 0]:=⟨by kernel_rfl⟩
instance T.zero_53:Has (a1Z Tryz.prog 53) [.slice none 0 0]:=⟨by kernel_rfl⟩
theorem c5h (I:IMap) (v:Value) (l:List Part) (hv:RdS I v l) (hl:l.length≤1000000) (x:Part) (B:Option Addr) (d:Nat) (hr:Enc.rd I (x.cells (.slice B x.props.length d)) x) (g4:Nat) (c4:ICells I g4 0 [v]) (hs:Srt Part.name l) :
    FnI Tryz.prog 145 #[.agg (x.cells (.slice B x.props.length d)).toArray,.pointer (some ⟨g4,0,none⟩)] I (fun u J=>∃w,u = .tuple #[.agg #[w],.int .i64 0]∧RdS J w (a4i Part.name l x)):=by
 refine enter Tryz.func145 Tryz.call145 rfl Tryz.ntmps145 rfl (fun w0=>?_);refine go 3 ?_;refine a0B _ rfl rfl rfl (fun g2=>?_);refine go 1 ?_;refine a0h he rfl (fun g3=>?_);refine go 6 ?_;refine o_v rfl (a0W he rfl (c4 0 _ rfl)) ?_;refine go 2 ?_;refine a0F (c4f _ v l hv hl x B d hr _ Part.name (fun J hJ y vs hr=>c5W J y vs hr) hs) rfl rfl (fun v8 I8 j8 q8=>?_);obtain⟨B8,d8,rfl,h8⟩:=q8;refine go 1 ?_;refine a0l rfl (a0A (pl:=[(0,1)]) he he rfl rfl) ?_;refine go 1 ?_;refine a0m _ he rfl rfl rfl rfl rfl rfl ?_;refine go 4 ?_;refine a2D rfl ⟨_,_,_,rfl,m0,.inr ⟨_,he,rfl,rfl⟩⟩ rfl ?_;exact q_i ⟨_,rfl,B8,d8,rfl,h8⟩
theorem a4m (I:IMap) (n:Int) :
    FnV Tryz.prog 148 #[.int .i64 n] I (.tuple #[.agg #[.slice none 0 0],.int .i64 n]):=by
 refine enter Tryz.func148 Tryz.call148 rfl Tryz.ntmps148 rfl (fun w0=>?_);refine go 3 ?_;refine a0h he rfl (fun g2=>?_);refine go 6 ?_;refine a0l rfl (a0A (pl:=[(0,1)]) he he rfl rfl) ?_;refine go 2 ?_;refine a0m _ he rfl rfl rfl rfl rfl rfl ?_;refine go 4 ?_;refine a2D rfl ⟨_,_,_,rfl,m0,.inr ⟨_,he,rfl,rfl⟩⟩ rfl ?_;exact q_v rfl
theorem c5i (I:IMap) (v:Value) (l:List Part) (hv:RdS I v l) (g4:Nat) (c4:ICells I g4 0 [v]) (f:FuncId) (cs:List Value) (p:Part→Bool) (hp:∀x∈l,∀vs,Enc.rd I vs x→FnV Tryz.prog f ([Value.agg vs.toArray]++cs).toArray I (.bool (p x))) :
    FnV Tryz.prog 150 #[.func (.func f) #[] cs.toArray,.pointer (some ⟨g4,0,none⟩)] I (.bool (l.any p)):=by
 refine enter Tryz.func150 Tryz.call150 rfl Tryz.ntmps150 rfl (fun w0=>?_);refine go 8 ?_;refine o_v rfl (a0W he rfl (c4 0 _ rfl)) ?_;refine go 2 ?_;refine a0a (a7T _ v l hv f cs p hp) rfl rfl ?_;refine go 4 ?_;refine a0x rfl rfl ?_;exact q_v rfl
theorem c8V (I:IMap) (x:Part) (vs:List Value) (h:Enc.rd I vs x) (g:Nat) (e:Evt) (cg:ICells I g 0 e.cells) :
    FnV Tryz.prog 153 #[.agg vs.toArray,.pointer (some ⟨g,0,none⟩)] I (.bool (decide (x.into=e.into)&&decide (x.slot=e.slot))):=by
 obtain⟨ps,rfl,hps⟩:=h;refine enter Tryz.func153 Tryz.call153 rfl Tryz.ntmps153 rfl (fun w0=>?_);refine go 3 ?_;refine a0B _ rfl rfl rfl (fun g2=>?_);refine go 8 ?_;refine o_v rfl (a0W he rfl (cg 4 _ rfl)) ?_;refine go 2 ?_;refine sxb 9 rfl (fun h9 p9=>?_) (fun h9 p9=>?_)
 ·refine go 3 ?_;refine a0v (a0y rfl rfl h9 (a0l rfl (a0W he rfl (cg 5 _ rfl)) ?_));refine go 6 ?_;refine a0x rfl rfl ?_;exact q_v (congrArg Value.bool (by simp only[h9,bS]))
 ·refine go 10 ?_;refine a0x rfl rfl ?_;exact q_v (congrArg Value.bool (by simp only[h9,bS]))
theorem c8X (I:IMap) (x:Part) (vs:List Value) (h:Enc.rd I vs x) (g:Nat) (q:Part) (s:Value) (cg:ICells I g 0 (q.cells s)) :
    FnV Tryz.prog 156 #[.agg vs.toArray,.pointer (some ⟨g,0,none⟩)] I (.bool (decide (x.into=q.name))):=by
 obtain⟨ps,rfl,hps⟩:=h;refine enter Tryz.func156 Tryz.call156 rfl Tryz.ntmps156 rfl (fun w0=>?_);refine go 3 ?_;refine a0B _ rfl rfl rfl (fun g2=>?_);refine go 8 ?_;refine o_v rfl (a0W he rfl (cg 0 _ rfl)) ?_;refine go 5 ?_;refine a0x rfl rfl ?_;exact q_v rfl
theorem c0b (I:IMap) (vc:Value) (c:List Kind) (hvc:RdS I vc c) (hsc:SmC c) (v:Value) (l:List Part) (hv:RdS I v l) (hsf:SmF l) (e:Evt) (hse:SmE e) :
    FnI Tryz.prog 91 #[.agg #[vc],.agg #[v],.agg e.cells.toArray] I (fun u J=>StIs J (a0p c l e) u):=by
 have hv0:=hv
 obtain⟨A,c0,rfl,hA,hc,hm⟩:=hv;refine enter Tryz.func91 Tryz.call91 rfl Tryz.ntmps91 rfl (fun w0=>?_);refine go 3 ?_;refine a0B _ rfl rfl rfl (fun g3=>?_);refine go 1 ?_;refine a0B _ rfl rfl rfl (fun g4=>?_);refine go 1 ?_;refine a0B _ rfl rfl rfl (fun g5=>?_);refine go 1 ?_;refine a0h he rfl (fun g6=>?_);refine go 5 ?_;refine a2z (I':=I) (L':=[(3,.pointer (some ⟨g3,0,none⟩)),(4,.pointer (some ⟨g4,0,none⟩)),(5,.pointer (some ⟨g5,0,none⟩)),(6,.pointer (some ⟨g6,0,none⟩)),(28,.bool (!a3x c l || !a1H e))]) (H':=[.blk g6 53 [.slice none 0 0],.blk g5 96 e.cells,.blk g4 53 [.slice A l.length c0],.blk g3 24 [vc]]) ?_ ?_
 ·refine go 4 ?_;refine a0a (c6S _ vc c hvc hsc _ l hv0 hsf) rfl rfl ?_;refine go 2 ?_;refine sxb 24 rfl (fun h24 p24=>?_) (fun h24 p24=>?_)
  ·refine go 6 ?_;exact a0E ⟨rfl,rfl,rfl,rfl,(congrArg (fun b=>some (Value.bool b)) (by simp only[h24,bS])),trivial⟩ rfl rfl
  ·refine go 2 ?_;refine a0y rfl rfl h24 (a0a (b4R _ e hse) rfl rfl ?_);refine go 4 ?_;exact a0E ⟨rfl,rfl,rfl,rfl,(congrArg (fun b=>some (Value.bool b)) (by simp only[h24,bS])),trivial⟩ rfl rfl
 ·refine cb rfl (fun h28 p28=>?_) (fun h28 p28=>?_)
  ·refine go 3 ?_;refine a0l rfl (a0A (pl:=[(0,1)]) he he rfl rfl) ?_;refine go 1 ?_;refine a0m _ he rfl rfl rfl rfl rfl rfl ?_;refine go 5 ?_;refine a2D rfl ⟨_,_,_,rfl,m0,.inr ⟨_,he,rfl,rfl⟩⟩ rfl ?_;exact q_i (StIs.fail (by simp only[a0p,h28,if_true]))
  ·have hV:a3x c l=true∧a1H e=true:=by revert h28;simp
   obtain⟨hsrt,hlen⟩:=b1A hV.1
   have hl6:l.length≤1000000:=by omega
   refine go 6 ?_;refine a3o (d1A _ _ l hv0) rfl rfl (fun v31 s31 q31=>?_);obtain⟨m31,kvs,rfl,rfl,hIx,_⟩:=q31;refine go 1 ?_;refine a0h he rfl (fun g8=>?_);refine go 1 ?_;refine a0m _ he rfl rfl rfl rfl rfl rfl ?_;refine go 4 ?_;refine a1o ?_;refine a2f (fun Ig4 jg4 cg4=>?_)
   have hvc:=hvc.le jg4
   have hv0:=hv0.le jg4
   refine o_v rfl (a1a rfl rfl) ?_;refine go 14 ?_;refine a0g ?_;refine a9Q (c6Q _ _ l hv0 m31 kvs hIx e.part) rfl rfl (fun v37 q37=>?_);obtain⟨vs11,rfl,s11,rfl,hs11⟩:=q37;refine go 4 ?_;refine a0h he rfl (fun g11=>?_);refine go 1 ?_;refine a0m _ he rfl rfl rfl rfl rfl (Enc.one (α:=Part) (I:=Ig4) (x:=a1I l e) ⟨s11,rfl,hs11⟩) ?_;refine go 11 ?_;refine cb rfl (fun h42 p42=>?_) (fun h42 p42=>?_)
   ·refine go 6 ?_;refine cb rfl (fun h43 p43=>?_) (fun h43 p43=>?_)
    ·refine go 4 ?_;refine a0a (a4m _ 3) rfl rfl ?_;refine go 3 ?_;refine a1k ?_;refine a0m _ he rfl rfl rfl rfl rfl rfl ?_;refine go 6 ?_;refine a2D rfl ⟨_,_,_,rfl,m0,.inr ⟨_,he,rfl,rfl⟩⟩ rfl ?_;exact q_i (StIs.fail (by simp only[a0p,h28,p42,a2P,h43,Bool.true_eq_false,decide_true,decide_false,Int.reduceEq,reduceIte,if_true,if_false,Bool.false_eq_true,not_true,not_false_eq_true,bS]))
    ·refine go 9 ?_;refine a5f (b1R _ vc c hvc e.kind) rfl rfl (fun v52 q52=>?_);obtain⟨vs13,rfl,s13,rfl,hs13⟩:=q52;refine go 4 ?_;refine a0h he rfl (fun g13=>?_);refine go 1 ?_;refine a0m _ he rfl rfl rfl rfl rfl (Enc.one (α:=Kind) (I:=Ig4) (x:=(a7h c e.kind).getD b0G) ⟨s13,rfl,hs13⟩) ?_;refine go 9 ?_;refine cb rfl (fun h56 p56=>?_) (fun h56 p56=>?_)
     ·refine go 4 ?_;refine a0a (a4m _ 4) rfl rfl ?_;refine go 3 ?_;refine a1o ?_;refine a0m _ he rfl rfl rfl rfl rfl rfl ?_;refine go 6 ?_;refine a2D rfl ⟨_,_,_,rfl,m0,.inr ⟨_,he,rfl,rfl⟩⟩ rfl ?_;exact q_i (StIs.fail (by simp only[a0p,h28,p42,a2P,h43,p56,Bool.true_eq_false,decide_true,decide_false,Int.reduceEq,reduceIte,if_true,if_false,Bool.false_eq_true,not_true,not_false_eq_true,bS]))
     ·refine go 6 ?_;refine o_v rfl (a0W he rfl (cg4 0 _ rfl)) ?_;refine go 4 ?_;refine cb rfl (fun h64 p64=>?_) (fun h64 p64=>?_)
      ·refine go 4 ?_;refine a0a (a4m _ 7) rfl rfl ?_;refine go 3 ?_;refine a1o ?_;refine a0m _ he rfl rfl rfl rfl rfl rfl ?_;refine go 6 ?_;refine a2D rfl ⟨_,_,_,rfl,m0,.inr ⟨_,he,rfl,rfl⟩⟩ rfl ?_;exact q_i (StIs.fail (by simp only[a0p,h28,p42,a2P,h43,p56,p64,Bool.true_eq_false,Bool.true_eq_false,decide_true,decide_false,Int.reduceEq,reduceIte,if_true,if_false,Bool.false_eq_true,not_true,not_false_eq_true,bS]))
      ·refine go 14 ?_;refine a0l rfl (a0A (pl:=[(0,1),(1,1),(2,1),(3,1),(4,1),(5,1),(6,1),(7,1),(8,6)]) he he rfl rfl) ?_;refine go 1 ?_;refine a0F (c5h _ _ l hv0 hl6 (c3M e) none 0 ⟨_,rfl,RdS.nil'⟩ g4 cg4 hsrt) rfl rfl (fun v79 I79 j79 q79=>?_);obtain⟨w79,rfl,⟨B79,d79,rfl,hw79⟩⟩:=q79;refine go 3 ?_;refine a1o ?_;refine a0m _ he rfl rfl rfl rfl rfl rfl ?_;refine go 5 ?_;refine a2D rfl ⟨_,_,_,rfl,m0,.inr ⟨_,he,rfl,rfl⟩⟩ rfl ?_;exact q_i (StIs.put (by simp only[a0p,h28,p42,a2P,h43,p56,p64,Bool.true_eq_false,Bool.true_eq_false,decide_true,decide_false,Int.reduceEq,reduceIte,if_true,if_false,Bool.false_eq_true,not_true,not_false_eq_true,bS]) ⟨B79,d79,rfl,hw79⟩)
   ·refine go 7 ?_;refine a0h he rfl (fun g15=>?_);refine go 1 ?_;refine a0m _ he rfl rfl rfl rfl rfl (Enc.one (α:=Part) (I:=Ig4) (x:=a1I l e) ⟨s11,rfl,hs11⟩) ?_;refine go 4 ?_;refine a7a (α:=Value) (Ix:=(fun s15=>Ig4)) (Lx:=(fun s15=>[(3,.pointer (some ⟨g3,0,none⟩)),(4,.pointer (some ⟨g4,0,none⟩)),(5,.pointer (some ⟨g5,0,none⟩)),(6,.pointer (some ⟨g6,0,none⟩)),(9,.func (.func 145) #[] #[.pointer (some ⟨g4,0,none⟩)]),(10,.func (.func 148) #[] #[]),(11,.pointer (some ⟨g11,0,none⟩)),(12,.bool (a0O l e.part).isSome),(15,.pointer (some ⟨g15,0,none⟩)),(16,.bool (a2p l e).isSome)])) (Hx:=(fun s15=>[.blk g15 48 ((a2I l e).cells s15),.blk g11 48 ((a1I l e).cells s11),.blk g6 53 [.slice none 0 0],.blk g5 96 e.cells,.blk g3 24 [vc]])) (p:=(fun s15=>RdS Ig4 s15 (a2I l e).props)) ?_ ?_
    ·refine go 7 ?_;refine cb rfl (fun h86 p86=>?_) (fun h86 p86=>?_)
     ·refine go 5 ?_;refine a0u ?_;refine a9Q (c6Q _ _ l hv0 m31 kvs hIx e.into) rfl rfl (fun v91 q91=>?_);obtain⟨vs15,rfl,s15,rfl,hs15⟩:=q91;refine go 4 ?_;refine a0g ?_;refine a0m _ he rfl rfl rfl rfl rfl (Enc.one (α:=Part) (I:=Ig4) (x:=(a0O l e.into).getD zPart) ⟨s15,rfl,hs15⟩) ?_;refine go 3 ?_;refine a0g ?_;refine a0b ?_;refine a0u ?_;refine a0b ?_;exact a2T s15 (by simp only[a2I,a2p,p86,if_true];exact hs15) ⟨rfl,rfl,rfl,rfl,rfl,rfl,rfl,rfl,rfl,(by simp only[a2p,p86,if_true,if_false];rfl),trivial⟩ (by simp only[a2I,a2p,p86,if_true,if_false];rfl) rfl
     ·refine go 2 ?_;refine a0u ?_;refine a0b ?_;refine a0u ?_;refine a0b ?_;exact a2T s11 (by simp only[a2I,a2p,p86,if_false];exact hs11) ⟨rfl,rfl,rfl,rfl,rfl,rfl,rfl,rfl,rfl,(by simp only[a2p,p86,if_true,if_false];rfl),trivial⟩ (by simp only[a2I,a2p,p86,if_true,if_false];rfl) rfl
    ·intro s15 hs15;refine go 6 ?_;refine sxb 96 rfl (fun h96 p96=>?_) (fun h96 p96=>?_)
     ·refine go 5 ?_;refine a3c rfl ?_;refine go 4 ?_;refine a0a (a4m _ 2) rfl rfl ?_;refine go 3 ?_;refine a0u ?_;refine a0m _ he rfl rfl rfl rfl rfl rfl ?_;refine go 5 ?_;refine a2D rfl ⟨_,_,_,rfl,m0,.inr ⟨_,he,rfl,rfl⟩⟩ rfl ?_;exact q_i (StIs.fail (by simp only[a0p,h28,p42,a0G,h96,Bool.true_eq_false,decide_true,decide_false,Int.reduceEq,reduceIte,if_true,if_false,Bool.false_eq_true,not_true,not_false_eq_true,bS]))
     ·refine go 5 ?_;refine cb rfl (fun h99 p99=>?_) (fun h99 p99=>?_)
      ·refine go 4 ?_;refine a0a (a4m _ 2) rfl rfl ?_;refine go 3 ?_;refine a0u ?_;refine a0m _ he rfl rfl rfl rfl rfl rfl ?_;refine go 5 ?_;refine a2D rfl ⟨_,_,_,rfl,m0,.inr ⟨_,he,rfl,rfl⟩⟩ rfl ?_;exact q_i (StIs.fail (by simp only[a0p,h28,p42,a0G,h96,h99,Bool.true_eq_false,decide_true,decide_false,Int.reduceEq,reduceIte,if_true,if_false,Bool.false_eq_true,not_true,not_false_eq_true,bS]))
      ·have hmem:a1I l e∈l:=a9V (by simpa using h96)
       refine go 8 ?_;refine sxb 106 rfl (fun h106 p106=>?_) (fun h106 p106=>?_)
       ·refine go 5 ?_;refine a3c rfl ?_;refine go 4 ?_;refine a0a (a4m _ 5) rfl rfl ?_;refine go 3 ?_;refine a0u ?_;refine a0m _ he rfl rfl rfl rfl rfl rfl ?_;refine go 5 ?_;refine a2D rfl ⟨_,_,_,rfl,m0,.inr ⟨_,he,rfl,rfl⟩⟩ rfl ?_;exact q_i (StIs.fail (by simp only[a0p,h28,p42,a0G,h96,h99,h106,Bool.true_eq_false,decide_true,decide_false,Int.reduceEq,reduceIte,if_true,if_false,Bool.false_eq_true,not_true,not_false_eq_true,bS]))
       ·refine go 5 ?_;refine cb rfl (fun h109 p109=>?_) (fun h109 p109=>?_)
        ·refine go 4 ?_;refine a0a (a4m _ 5) rfl rfl ?_;refine go 3 ?_;refine a0u ?_;refine a0m _ he rfl rfl rfl rfl rfl rfl ?_;refine go 5 ?_;refine a2D rfl ⟨_,_,_,rfl,m0,.inr ⟨_,he,rfl,rfl⟩⟩ rfl ?_;exact q_i (StIs.fail (by simp only[a0p,h28,p42,a0G,h96,h99,h106,h109,Bool.true_eq_false,decide_true,decide_false,Int.reduceEq,reduceIte,if_true,if_false,Bool.false_eq_true,not_true,not_false_eq_true,bS]))
        ·refine go 4 ?_;refine o_v rfl (a1a rfl rfl) ?_;refine go 9 ?_;refine a5f (b1R _ vc c hvc (a1I l e).kind) rfl rfl (fun v119 q119=>?_);obtain⟨vs18,rfl,s18,rfl,hs18⟩:=q119;refine go 4 ?_;refine a0h he rfl (fun g18=>?_);refine go 1 ?_;refine a0m _ he rfl rfl rfl rfl rfl (Enc.one (α:=Kind) (I:=Ig4) (x:=a3D c l e) ⟨s18,rfl,hs18⟩) ?_;refine go 4 ?_;refine b9y (Ix:=(fun J p2 s2=>J)) (Lx:=(fun J p2 s2=>[(6,.pointer (some ⟨g6,0,none⟩)),(9,.func (.func 145) #[] #[.pointer (some ⟨g4,0,none⟩)]),(11,.pointer (some ⟨g11,0,none⟩))])) (Hx:=(fun J p2 s2=>[.blk g11 48 (p2.cells s2),.blk g6 53 [.slice none 0 0]])) (p:=(fun J p2 s2=>ILe Ig4 J∧RdS J s2 p2.props∧a0p c l e=b2r l p2)) ?_ ?_
         ·refine go 13 ?_;refine cb rfl (fun h124 p124=>?_) (fun h124 p124=>?_)
          ·refine go 7 ?_;refine sxb 129 rfl (fun h129 p129=>?_) (fun h129 p129=>?_)
           ·refine go 13 ?_;refine a3c rfl ?_;refine go 4 ?_;refine a0a (a4m _ 4) rfl rfl ?_;refine go 3 ?_;refine a1k ?_;refine a0m _ he rfl rfl rfl rfl rfl rfl ?_;refine go 8 ?_;refine a2D rfl ⟨_,_,_,rfl,m0,.inr ⟨_,he,rfl,rfl⟩⟩ rfl ?_;exact q_i (StIs.fail (by simp only[a0p,h28,p42,a0G,a1C,a1B,a0K,a1y,a1f,a0T,a0X,a1p,a3D,a4g,p28,p42,p96,p99,p106,p109,p124,p129,h96,h99,h106,h109,h124,h129,Bool.true_eq_false,decide_true,decide_false,Int.reduceEq,reduceIte,if_true,if_false,Bool.false_eq_true,not_true,not_false_eq_true,bS]))
           ·refine go 8 ?_;refine a0y rfl rfl h129 (a0a (b5X _ vc c hvc (a2I l e).kind e.slot (a1I l e).kind) rfl rfl ?_);refine go 5 ?_;refine cb rfl (fun h126 p126=>?_) (fun h126 p126=>?_)
            ·refine go 4 ?_;refine a0a (a4m _ 4) rfl rfl ?_;refine go 3 ?_;refine a1k ?_;refine a0m _ he rfl rfl rfl rfl rfl rfl ?_;refine go 8 ?_;refine a2D rfl ⟨_,_,_,rfl,m0,.inr ⟨_,he,rfl,rfl⟩⟩ rfl ?_;exact q_i (StIs.fail (by simp only[a0p,h28,p42,a0G,a1C,a1B,a0K,a1y,a1f,a0T,a0X,a1p,a3D,a4g,p28,p42,p96,p99,p106,p109,p124,p129,p126,h96,h99,h106,h109,h124,h129,h126,Bool.true_eq_false,decide_true,decide_false,Int.reduceEq,reduceIte,if_true,if_false,Bool.false_eq_true,not_true,not_false_eq_true,bS]))
            ·refine go 8 ?_;refine cb rfl (fun h144 p144=>?_) (fun h144 p144=>?_)
             ·refine go 4 ?_;refine a0a (a4m _ 5) rfl rfl ?_;refine go 3 ?_;refine a1k ?_;refine a0m _ he rfl rfl rfl rfl rfl rfl ?_;refine go 8 ?_;refine a2D rfl ⟨_,_,_,rfl,m0,.inr ⟨_,he,rfl,rfl⟩⟩ rfl ?_;exact q_i (StIs.fail (by simp only[a0p,h28,p42,a0G,a1C,a1B,a0K,a1y,a1f,a0T,a0X,a1p,a3D,a4g,p28,p42,p96,p99,p106,p109,p124,p129,p126,p144,h96,h99,h106,h109,h124,h129,h126,h144,Bool.true_eq_false,decide_true,decide_false,Int.reduceEq,reduceIte,if_true,if_false,Bool.false_eq_true,not_true,not_false_eq_true,bS]))
             ·refine go 3 ?_;refine a1o ?_;refine a2f (fun Ig5 jg5 cg5=>?_)
              have hvc:=hvc.le jg5
              have hv0:=hv0.le jg5
              have cg4:=cg4.le jg5
              have hs11:=hs11.le jg5
              have hs18:=hs18.le jg5
              refine o_v rfl (a1a rfl rfl) ?_;refine go 1 ?_;refine a0a (c5i _ _ l hv0 g4 cg4 _ [.pointer (some ⟨g5,0,none⟩)] (fun x=>decide (x.into=e.into)&&decide (x.slot=e.slot)) (fun x hx vs hr=>c8V _ x vs hr g5 e cg5)) rfl rfl ?_;refine go 3 ?_;refine cb rfl (fun h152 p152=>?_) (fun h152 p152=>?_)
              ·refine go 4 ?_;refine a0a (a4m _ 6) rfl rfl ?_;refine go 3 ?_;refine a1k ?_;refine a0m _ he rfl rfl rfl rfl rfl rfl ?_;refine go 8 ?_;refine a2D rfl ⟨_,_,_,rfl,m0,.inr ⟨_,he,rfl,rfl⟩⟩ rfl ?_;exact q_i (StIs.fail (by simp only[a0p,h28,p42,a0G,a1C,a1B,a0K,a1y,a1f,a0T,a0X,a1p,a3D,a4g,p28,p42,p96,p99,p106,p109,p124,p129,p126,p144,p152,h96,h99,h106,h109,h124,h129,h126,h144,h152,Bool.true_eq_false,decide_true,decide_false,Int.reduceEq,reduceIte,if_true,if_false,Bool.false_eq_true,not_true,not_false_eq_true,bS]))
              ·refine go 3 ?_;refine a0u ?_;refine a1t T.mixed ?_;refine a0f 0 rfl rfl (by kernel_rfl) rfl (.cons _ (.refl _)) rfl (a0d he rfl) ?_;refine a0f 1 rfl rfl (by kernel_rfl) rfl (.cons _ (.refl _)) rfl (a0W he rfl (cg5 4 _ rfl)) ?_;refine a0f 2 rfl rfl (by kernel_rfl) rfl (.cons _ (.refl _)) rfl (a0d he rfl) ?_;refine a0f 3 rfl rfl (by kernel_rfl) rfl (.cons _ (.refl _)) rfl (a0W he rfl (cg5 5 _ rfl)) ?_;refine a0f 4 rfl rfl (by kernel_rfl) rfl (.cons _ (.refl _)) rfl (a0d he rfl) ?_;refine a0i 5 (by kernel_rfl) rfl ?_;refine a3r he rfl rfl rfl rfl ?_;refine a0r (fun _ m=>m.keeps (.cons _ (.refl _))) ?_;refine a0f 6 rfl rfl (by kernel_rfl) rfl (.cons _ (.refl _)) rfl (a0d he rfl) ?_;refine a0i 7 (by kernel_rfl) rfl ?_;refine a3r he rfl rfl rfl rfl ?_;refine a0r (fun _ m=>m.keeps (.cons _ (.refl _))) ?_;refine a0w (by kernel_rfl) ?_;refine go 2 ?_;refine a0g ?_;refine a0b ?_;refine a0g ?_;refine a0b ?_;refine a0u ?_;refine a0b ?_;exact a5I (_) ({ a1I l e with into:=e.into,slot:=e.slot }) (_) ⟨jg5,hs11,by simp only[a0p,h28,p42,a0G,h96,h99,h106,h109,a1C,a1B,a0K,a1y,a1f,a0T,a0X,a1p,a3D,a4g,a2q,p28,p42,p96,p99,p106,p109,p124,p129,p126,p144,p152,h96,h99,h106,h109,h124,h129,h126,h144,h152,Bool.true_eq_false,decide_true,decide_false,Int.reduceEq,reduceIte,if_true,if_false,Bool.false_eq_true,not_true,not_false_eq_true,bS]⟩ sb rfl rfl
          ·refine go 6 ?_;refine cb rfl (fun h166 p166=>?_) (fun h166 p166=>?_)
           ·refine go 8 ?_;refine cb rfl (fun h170 p170=>?_) (fun h170 p170=>?_)
            ·refine go 4 ?_;refine a0a (a4m _ 5) rfl rfl ?_;refine go 3 ?_;refine a1k ?_;refine a0m _ he rfl rfl rfl rfl rfl rfl ?_;refine go 7 ?_;refine a2D rfl ⟨_,_,_,rfl,m0,.inr ⟨_,he,rfl,rfl⟩⟩ rfl ?_;exact q_i (StIs.fail (by simp only[a0p,h28,p42,a0G,a1C,a1B,a0K,a1y,a1f,a0T,a0X,a1p,a3D,a4g,p28,p42,p96,p99,p106,p109,p124,p166,p170,h96,h99,h106,h109,h124,h166,h170,Bool.true_eq_false,decide_true,decide_false,Int.reduceEq,reduceIte,if_true,if_false,Bool.false_eq_true,not_true,not_false_eq_true,bS]))
            ·refine go 5 ?_;refine a0u ?_;refine a3r he rfl rfl rfl rfl ?_;refine go 2 ?_;refine a3r he rfl rfl rfl rfl ?_;refine go 3 ?_;refine a0g ?_;refine a0b ?_;refine a0g ?_;refine a0b ?_;refine a0u ?_;refine a0b ?_;refine a0u ?_;refine a0b ?_;exact a5I (_) ({ a1I l e with into:=a1g,slot:=a1g }) (_) ⟨ILe.refl _,hs11,by simp only[a0p,h28,p42,a0G,h96,h99,h106,h109,a1C,a1B,a0K,a1y,a1f,a0T,a0X,a1p,a3D,a4g,a2q,p28,p42,p96,p99,p106,p109,p124,p166,p170,h96,h99,h106,h109,h124,h166,h170,Bool.true_eq_false,decide_true,decide_false,Int.reduceEq,reduceIte,if_true,if_false,Bool.false_eq_true,not_true,not_false_eq_true,bS]⟩ sb rfl rfl
           ·refine go 6 ?_;refine cb rfl (fun h177 p177=>?_) (fun h177 p177=>?_)
            ·refine go 7 ?_;refine cb rfl (fun h181 p181=>?_) (fun h181 p181=>?_)
             ·refine go 4 ?_;refine a0a (a4m _ 4) rfl rfl ?_;refine go 3 ?_;refine a1k ?_;refine a0m _ he rfl rfl rfl rfl rfl rfl ?_;refine go 6 ?_;refine a2D rfl ⟨_,_,_,rfl,m0,.inr ⟨_,he,rfl,rfl⟩⟩ rfl ?_;exact q_i (StIs.fail (by simp only[a0p,h28,p42,a0G,a1C,a1B,a0K,a1y,a1f,a0T,a0X,a1p,a3D,a4g,p28,p42,p96,p99,p106,p109,p124,p166,p177,p181,h96,h99,h106,h109,h124,h166,h177,h181,Bool.true_eq_false,decide_true,decide_false,Int.reduceEq,reduceIte,if_true,if_false,Bool.false_eq_true,not_true,not_false_eq_true,bS]))
             ·refine go 3 ?_;refine a0b ?_;refine a0b ?_;refine a0u ?_;refine a0b ?_;refine a0u ?_;refine a0b ?_;exact a5I (_) (a1I l e) (_) ⟨ILe.refl _,hs11,by simp only[a0p,h28,p42,a0G,h96,h99,h106,h109,a1C,a1B,a0K,a1y,a1f,a0T,a0X,a1p,a3D,a4g,a2q,p28,p42,p96,p99,p106,p109,p124,p166,p177,p181,h96,h99,h106,h109,h124,h166,h177,h181,Bool.true_eq_false,decide_true,decide_false,Int.reduceEq,reduceIte,if_true,if_false,Bool.false_eq_true,not_true,not_false_eq_true,bS]⟩ sb rfl rfl
            ·refine go 6 ?_;refine cb rfl (fun h186 p186=>?_) (fun h186 p186=>?_)
             ·refine go 5 ?_;refine o_v rfl (a5M rfl rfl) ?_;refine go 1 ?_;refine a0l rfl (a0A (pl:=[(0,2),(2,2),(4,2)]) he he rfl rfl) ?_;refine go 2 ?_;refine a0u ?_;refine a3r he rfl rfl rfl rfl ?_;refine go 2 ?_;refine c9Y _ _ he rfl rfl rfl rfl rfl rfl rfl ?_;refine go 3 ?_;refine a0g ?_;refine a0b ?_;refine a0g ?_;refine a0b ?_;refine a0u ?_;refine a0b ?_;refine a0u ?_;refine a0b ?_;exact a5I (_) (a2q e (a1I l e)) (_) ⟨ILe.refl _,hs11,by simp only[a0p,h28,p42,a0G,h96,h99,h106,h109,a1C,a1B,a0K,a1y,a1f,a0T,a0X,a1p,a3D,a4g,a2q,p28,p42,p96,p99,p106,p109,p124,p166,p177,p186,h96,h99,h106,h109,h124,h166,h177,h186,Bool.true_eq_false,decide_true,decide_false,Int.reduceEq,reduceIte,if_true,if_false,Bool.false_eq_true,not_true,not_false_eq_true,bS]⟩ sb rfl rfl
             ·refine go 6 ?_;refine cb rfl (fun h196 p196=>?_) (fun h196 p196=>?_)
              ·refine go 9 ?_;refine a0l rfl (a0A (pl:=[(0,1),(1,1)]) he he rfl rfl) ?_;refine go 1 ?_;refine a0F (c7S _ s11 (a1I l e).props hs11 (by have:=(b0l hV.1 hmem).2;omega) ⟨e.key,e.value⟩ rfl _ Prp.key (fun J hJ y vs hr=>c8W J y vs hr) (b0l hV.1 hmem).1) rfl rfl (fun v205 I205 j205 q205=>?_);obtain⟨B205,d205,rfl,h205⟩:=q205;refine go 2 ?_;refine a0u ?_;refine a3r he rfl rfl rfl rfl ?_;refine go 10 ?_;refine cb rfl (fun h210 p210=>?_) (fun h210 p210=>?_)
               ·refine go 4 ?_;refine a0a (a4m _ 7) rfl rfl ?_;refine go 3 ?_;refine a1k ?_;refine a0m _ he rfl rfl rfl rfl rfl rfl ?_;refine go 6 ?_;refine a2D rfl ⟨_,_,_,rfl,m0,.inr ⟨_,he,rfl,rfl⟩⟩ rfl ?_;exact q_i (StIs.fail (by simp only[a0p,h28,p42,a0G,a1C,a1B,a0K,a1y,a1f,a0T,a0X,a1p,a3D,a4g,p28,p42,p96,p99,p106,p109,p124,p166,p177,p186,p196,p210,h96,h99,h106,h109,h124,h166,h177,h186,h196,h210,Bool.true_eq_false,decide_true,decide_false,Int.reduceEq,reduceIte,if_true,if_false,Bool.false_eq_true,not_true,not_false_eq_true,bS]))
               ·refine go 3 ?_;refine a0g ?_;refine a0b ?_;refine a0g ?_;refine a0b ?_;refine a0u ?_;refine a0b ?_;refine a0u ?_;refine a0b ?_;exact a5I (_) (a4g e (a1I l e)) (_) ⟨j205,⟨B205,d205,rfl,h205⟩,by simp only[a0p,h28,p42,a0G,h96,h99,h106,h109,a1C,a1B,a0K,a1y,a1f,a0T,a0X,a1p,a3D,a4g,a2q,p28,p42,p96,p99,p106,p109,p124,p166,p177,p186,p196,p210,h96,h99,h106,h109,h124,h166,h177,h186,h196,h210,Bool.true_eq_false,decide_true,decide_false,Int.reduceEq,reduceIte,if_true,if_false,Bool.false_eq_true,not_true,not_false_eq_true,bS]⟩ sb rfl rfl
              ·refine go 6 ?_;refine cb rfl (fun h215 p215=>?_) (fun h215 p215=>?_)
               ·refine go 7 ?_;refine sxb 220 rfl (fun h220 p220=>?_) (fun h220 p220=>?_)
                ·refine go 6 ?_;refine a3c rfl ?_;refine go 4 ?_;refine a0a (a4m _ 5) rfl rfl ?_;refine go 3 ?_;refine a1k ?_;refine a0m _ he rfl rfl rfl rfl rfl rfl ?_;refine go 7 ?_;refine a2D rfl ⟨_,_,_,rfl,m0,.inr ⟨_,he,rfl,rfl⟩⟩ rfl ?_;exact q_i (StIs.fail (by simp only[a0p,h28,p42,a0G,a1C,a1B,a0K,a1y,a1f,a0T,a0X,a1p,a3D,a4g,p28,p42,p96,p99,p106,p109,p124,p166,p177,p186,p196,p215,p220,h96,h99,h106,h109,h124,h166,h177,h186,h196,h215,h220,Bool.true_eq_false,decide_true,decide_false,Int.reduceEq,reduceIte,if_true,if_false,Bool.false_eq_true,not_true,not_false_eq_true,bS]))
                ·refine go 1 ?_;refine a0v (a0y rfl rfl h220 (a0l rfl (a1a rfl rfl) ?_));refine go 1 ?_;refine a0y rfl rfl h220 (c7D m2 (fun I2 hI2 c2=>c5i I2 _ l (hv0.le hI2) g4 (cg4.le hI2) _ [.pointer (some ⟨g11,0,none⟩)] (fun x=>decide (x.into=(a1I l e).name)) (fun x hx vs hr=>c8X I2 x vs hr g11 _ _ c2)) rfl rfl ?_);refine go 3 ?_;refine cb rfl (fun h224 p224=>?_) (fun h224 p224=>?_)
                 ·refine go 4 ?_;refine a0a (a4m _ 5) rfl rfl ?_;refine go 3 ?_;refine a1k ?_;refine a0m _ he rfl rfl rfl rfl rfl rfl ?_;refine go 7 ?_;refine a2D rfl ⟨_,_,_,rfl,m0,.inr ⟨_,he,rfl,rfl⟩⟩ rfl ?_;exact q_i (StIs.fail (by simp only[a0p,h28,p42,a0G,a1C,a1B,a0K,a1y,a1f,a0T,a0X,a1p,a3D,a4g,p28,p42,p96,p99,p106,p109,p124,p166,p177,p186,p196,p215,p220,p224,h96,h99,h106,h109,h124,h166,h177,h186,h196,h215,h220,h224,Bool.true_eq_false,decide_true,decide_false,Int.reduceEq,reduceIte,if_true,if_false,Bool.false_eq_true,not_true,not_false_eq_true,bS]))
                 ·refine go 5 ?_;refine a0u ?_;refine a3r he rfl rfl rfl rfl ?_;refine go 3 ?_;refine a0g ?_;refine a0b ?_;refine a0g ?_;refine a0b ?_;refine a0u ?_;refine a0b ?_;refine a0u ?_;refine a0b ?_;exact a5I (_) ({ a1I l e with scrapped:=true }) (_) ⟨ILe.refl _,hs11,by simp only[a0p,h28,p42,a0G,h96,h99,h106,h109,a1C,a1B,a0K,a1y,a1f,a0T,a0X,a1p,a3D,a4g,a2q,p28,p42,p96,p99,p106,p109,p124,p166,p177,p186,p196,p215,p220,p224,h96,h99,h106,h109,h124,h166,h177,h186,h196,h215,h220,h224,Bool.true_eq_false,decide_true,decide_false,Int.reduceEq,reduceIte,if_true,if_false,Bool.false_eq_true,not_true,not_false_eq_true,bS]⟩ sb rfl rfl
               ·refine go 3 ?_;refine a0b ?_;refine a0b ?_;refine a0u ?_;refine a0b ?_;refine a0u ?_;refine a0b ?_;exact a5I (_) (a1I l e) (_) ⟨ILe.refl _,hs11,by simp only[a0p,h28,p42,a0G,h96,h99,h106,h109,a1C,a1B,a0K,a1y,a1f,a0T,a0X,a1p,a3D,a4g,a2q,p28,p42,p96,p99,p106,p109,p124,p166,p177,p186,p196,p215,h96,h99,h106,h109,h124,h166,h177,h186,h196,h215,Bool.true_eq_false,decide_true,decide_false,Int.reduceEq,reduceIte,if_true,if_false,Bool.false_eq_true,not_true,not_false_eq_true,bS]⟩ sb rfl rfl
         ·rintro J p2 s2 ⟨hJ,⟨B2,d2,rfl,hB2⟩,hA⟩;refine go 5 ?_;refine a0F (c5h _ _ l (hv0.le hJ) hl6 p2 B2 d2 ⟨_,rfl,B2,d2,rfl,hB2⟩ g4 (cg4.le hJ) hsrt) rfl rfl (fun v232 I232 j232 q232=>?_);obtain⟨w232,rfl,⟨B232,d232,rfl,hw232⟩⟩:=q232;refine go 3 ?_;refine a0g ?_;refine a0m _ he rfl rfl rfl rfl rfl rfl ?_;refine go 4 ?_;refine a2D rfl ⟨_,_,_,rfl,m0,.inr ⟨_,he,rfl,rfl⟩⟩ rfl ?_;exact q_i (StIs.put hA ⟨B232,d232,rfl,hw232⟩)
end Go.Proofs.YtdapmfkbpnjkmaaGreat
namespace Go.Proofs.YtdapmfkbpnjkmaaGreat
open Go Go.Sx
set_option linter.all false
set_option maxRecDepth 20000
set_option maxHeartbeats 4000000
theorem b0g (I:IMap) (l:List Evt) (N:Nat) (hN:l.length=N) (g a b n:Nat) (f:FuncId) (h:a+n≤b) (hb:b+n≤l.length) (hl:l.length≤1000000) :
    FnM Tryz.prog 354 #[.slice (some ⟨g,0,none⟩) N N,.int .i64 ((a:Nat):Int),.int .i64 ((b:Nat):Int),.int .i64 ((n:Nat):Int),.func (.func f) #[] #[]] I (.blk g 96 (a1O (l)).flatten) (.blk g 96 (a1O (a9i l a b n)).flatten):=by
 refine enter Tryz.func354 Tryz.call354 rfl Tryz.ntmps354 rfl (fun w0=>?_);refine go 6 ?_
 refine a0L (α:=Nat) 0 (fun i=>I)
  (fun i=>[(0,.slice (some ⟨g,0,none⟩) N N),(1,.int .i64 ((a:Nat):Int)),(2,.int .i64 ((b:Nat):Int)),(3,.int .i64 ((n:Nat):Int)),(10,.int .i64 ((i:Nat):Int))])
  (fun i=>[.blk g 96 (a1O (a9i l a b i)).flatten])
  (fun i=>i≤n)
  (fun i=>n-i) (Nat.zero_le _) rfl sb rfl ?_
 intro i hi;refine go 8 ?_;refine cb rfl (fun h13 p13=>?_) (fun h13 p13=>?_)
 ·have hlt:i<n:=by omega
  have hm:=a3T l a b i
  have h1:a+i<(a9i l a b i).length:=by omega
  have h2:b+i<(a9i l a b i).length:=by omega
  refine go 4 ?_;refine a1t T.mixed ?_;refine a0f 0 rfl rfl (by kernel_rfl) rfl (.cons _ .slnil) rfl (a0c rfl) ?_;refine a0f 1 rfl rfl (by kernel_rfl) rfl (.cons _ .slnil) rfl (a0c rfl) ?_;refine a0f 2 rfl rfl (by kernel_rfl) rfl (.cons _ .slnil) rfl (a0c rfl) ?_;refine a0f 3 rfl rfl (by kernel_rfl) rfl (.cons _ .slnil) rfl (a2c rfl rfl ⟨by omega,by omega⟩) ?_;refine a0f 4 rfl rfl (by kernel_rfl) rfl (.cons _ .slnil) rfl (a0c rfl) ?_;refine a0f 5 rfl rfl (by kernel_rfl) rfl (.cons _ .slnil) rfl (a0c rfl) ?_;refine a0f 6 rfl rfl (by kernel_rfl) rfl (.cons _ .slnil) rfl (a0c rfl) ?_;refine a0f 7 rfl rfl (by kernel_rfl) rfl (.cons _ .slnil) rfl (a2c rfl rfl ⟨by omega,by omega⟩) ?_;refine a0f 8 rfl rfl (by kernel_rfl) rfl (.cons _ .slnil) rfl (a0c rfl) ?_;refine a0f 9 rfl rfl (by kernel_rfl) rfl (.cons _ .slnil) rfl (a0c rfl) ?_;refine a0f 10 rfl rfl (by kernel_rfl) rfl (.cons _ .slnil) rfl (a0c rfl) ?_;refine a0f 11 rfl rfl (by kernel_rfl) rfl (.cons _ .slnil) rfl (a2c rfl rfl ⟨by omega,by omega⟩) ?_;refine a0f 12 rfl rfl (by kernel_rfl) rfl (.cons _ .slnil) rfl (a0n he rfl rfl rfl (b+i) (by omega) (by omega)) ?_;refine a0f 14 rfl rfl (by kernel_rfl) rfl (.cons _ .slnil) rfl (a0c rfl) ?_;refine a0f 15 rfl rfl (by kernel_rfl) rfl (.cons _ .slnil) rfl (a0c rfl) ?_;refine a0f 16 rfl rfl (by kernel_rfl) rfl (.cons _ .slnil) rfl (a0c rfl) ?_;refine a0f 17 rfl rfl (by kernel_rfl) rfl (.cons _ .slnil) rfl (a2c rfl rfl ⟨by omega,by omega⟩) ?_;refine a0f 18 rfl rfl (by kernel_rfl) rfl (.cons _ .slnil) rfl (a0n he rfl rfl rfl (a+i) (by omega) (by omega)) ?_;refine a2A 13 19 (by kernel_rfl) rfl rfl ?_ ?_
  ·refine a0l rfl (a1S m0 (a0s _) he rfl (b+i) (by omega) (a1N h2)) ?_;refine a0r (fun _ m=>m.keeps (.cons _ .slnil)) ?_;refine a0i 19 (by kernel_rfl) rfl ?_;refine a0l rfl (a1S m0 (a0s _) he rfl (a+i) (by omega) (a1N h1)) ?_;refine a0r (fun _ m=>m.keeps (.cons _ .slnil)) ?_;refine a0f 20 rfl rfl (by kernel_rfl) rfl (.cons _ .slnil) rfl (a0n he rfl rfl rfl (a+i) (by omega) (by omega)) ?_;refine a0i 21 (by kernel_rfl) rfl ?_;refine a2b _ (a+i) (by first|exact a0s _|exact (a0s _).set rfl _) he rfl rfl rfl rfl rfl (by omega) (by simp[a0D];omega) ?_;refine a0r (fun _ m=>m.keeps (.cons _ .slnil)) ?_;refine a0f 22 rfl rfl (by kernel_rfl) rfl (.cons _ .slnil) rfl (a0n he rfl rfl rfl (b+i) (by omega) (by omega)) ?_;refine a0i 23 (by kernel_rfl) rfl ?_;refine a2b _ (b+i) (by first|exact a0s _|exact (a0s _).set rfl _) he rfl rfl rfl rfl rfl (by omega) (by simp[a0D];omega) ?_;refine a0r (fun _ m=>m.keeps (.cons _ .slnil)) ?_;refine a0w (by kernel_rfl) ?_;refine go 8 ?_;exact a0J (i+1) (by omega) (by omega) rfl sb (by rw[a9i];first|rw[←a4U h1 h2] | rw[←a3W h1 h2 (by omega)])
  ·refine a0l rfl (a1S m0 (a0s _) he rfl (a+i) (by omega) (a1N h1)) ?_;refine a0r (fun _ m=>m.keeps (.cons _ .slnil)) ?_;refine a0i 13 (by kernel_rfl) rfl ?_;refine a0l rfl (a1S m0 (a0s _) he rfl (b+i) (by omega) (a1N h2)) ?_;refine a0r (fun _ m=>m.keeps (.cons _ .slnil)) ?_;refine a0f 20 rfl rfl (by kernel_rfl) rfl (.cons _ .slnil) rfl (a0n he rfl rfl rfl (a+i) (by omega) (by omega)) ?_;refine a0i 21 (by kernel_rfl) rfl ?_;refine a2b _ (a+i) (by first|exact a0s _|exact (a0s _).set rfl _) he rfl rfl rfl rfl rfl (by omega) (by simp[a0D];omega) ?_;refine a0r (fun _ m=>m.keeps (.cons _ .slnil)) ?_;refine a0f 22 rfl rfl (by kernel_rfl) rfl (.cons _ .slnil) rfl (a0n he rfl rfl rfl (b+i) (by omega) (by omega)) ?_;refine a0i 23 (by kernel_rfl) rfl ?_;refine a2b _ (b+i) (by first|exact a0s _|exact (a0s _).set rfl _) he rfl rfl rfl rfl rfl (by omega) (by simp[a0D];omega) ?_;refine a0r (fun _ m=>m.keeps (.cons _ .slnil)) ?_;refine a0w (by kernel_rfl) ?_;refine go 8 ?_;exact a0J (i+1) (by omega) (by omega) rfl sb (by rw[a9i];first|rw[←a4U h1 h2] | rw[←a3W h1 h2 (by omega)])
 ·refine go 4 ?_;refine a4y rfl ?_;obtain rfl:i=n:=by omega
  exact q_m
theorem c0w (I:IMap) (l:List Evt) (N:Nat) (hN:l.length=N) (g a b:Nat) (f:FuncId) (hp:∀x y:Evt,FnV Tryz.prog f #[.agg (Day.ch x).toArray,.agg (Day.ch y).toArray] I (.int .i64 (b4H (Day.day x) (Day.day y)))) (hab:a≤b) (hb:b≤l.length) (hl:l.length≤1000000) :
    FnX Tryz.prog 316 #[.slice (some ⟨g,0,none⟩) N N,.int .i64 ((a:Nat):Int),.int .i64 ((b:Nat):Int),.func (.func f) #[] #[]] I [.blk g 96 (a1O (l)).flatten] (fun u r=>u = .tuple #[]∧∃m,r = .blk g 96 (a1O (m)).flatten∧Seg l m a b):=by
 refine enter Tryz.func316 Tryz.call316 rfl Tryz.ntmps316 rfl (fun w0=>?_);refine go 3 ?_;refine o_v rfl (OV.cast (u:=.int .i64 ((a+1:Nat):Int)) (a2c rfl rfl ⟨by omega,by omega⟩) (congrArg (Value.int .i64) (by omega))) ?_;refine go 4 ?_
 refine a1w (a+1) (l) (fun i m=>I)
  (fun i m=>[(0,.slice (some ⟨g,0,none⟩) N N),(1,.int .i64 ((a:Nat):Int)),(2,.int .i64 ((b:Nat):Int)),(3,.func (.func f) #[] #[]),(8,.int .i64 ((i:Nat):Int))])
  (fun i m=>[.blk g 96 (a1O (m)).flatten])
  (fun i m=>a+1≤i∧(i≤b∨(m=l∧i=a+1))∧Seg l m a i)
  (fun i m=>b-i) ⟨Nat.le_refl _,.inr ⟨rfl,rfl⟩,Seg.one l a⟩ rfl sb rfl ?_
 intro i m ⟨h1,h2,hs⟩;refine go 8 ?_;refine cb rfl (fun h14 p14=>?_) (fun h14 p14=>?_)
 ·have hlt:i<b:=by omega
  refine go 11 ?_
  refine a1w (i) (m) (fun j k=>I)
   (fun j k=>[(0,.slice (some ⟨g,0,none⟩) N N),(1,.int .i64 ((a:Nat):Int)),(2,.int .i64 ((b:Nat):Int)),(3,.func (.func f) #[] #[]),(8,.int .i64 ((i:Nat):Int)),(9,.int .i64 ((j:Nat):Int))])
   (fun j k=>[.blk g 96 (a1O (k)).flatten])
   (fun j k=>a≤j∧j≤i∧Ins l k a i j)
   (fun j k=>j) ⟨by omega,Nat.le_refl _,Ins.start hs⟩ rfl sb rfl ?_
  intro j k ⟨hj1,hj2,hk⟩
  have hkl:=hk.len
  refine go 2 ?_;refine a1h T.mixed ?_;refine a0f 0 rfl rfl (by kernel_rfl) rfl (.refl _) rfl (a0c rfl) ?_;refine a0f 1 rfl rfl (by kernel_rfl) rfl (.refl _) rfl (a0c rfl) ?_;refine a0f 2 rfl rfl (by kernel_rfl) rfl (.refl _) rfl (b8U rfl rfl) ?_;refine a0f 3 rfl rfl (by kernel_rfl) rfl (.refl _) rfl (a0c rfl) ?_;refine sxb 21 rfl (fun h21 p21=>?_) (fun h21 p21=>?_)
  ·have hjk:j<k.length:=by omega
   have hjk1:j-1<k.length:=by omega
   refine d_t 4 rfl rfl (by kernel_rfl) rfl (fun _ m=>m.keeps (.refl _)) (a1L rfl rfl h21 (a0c rfl)) ?_;refine d_t 5 rfl rfl (by kernel_rfl) rfl (fun _ m=>m.keeps (.refl _)) (a1L rfl rfl h21 (a0c rfl)) ?_;refine d_t 6 rfl rfl (by kernel_rfl) rfl (fun _ m=>m.keeps (.refl _)) (a1L rfl rfl h21 (a0c rfl)) ?_;refine d_t 7 rfl rfl (by kernel_rfl) rfl (fun _ m=>m.keeps (.refl _)) (a1L rfl rfl h21 (a0n he rfl rfl rfl (j) (by omega) (by omega))) ?_;refine d_t 8 rfl rfl (by kernel_rfl) rfl (fun _ m=>m.keeps (.refl _)) (a1L rfl rfl h21 (a1S m0 (a0s _) he rfl (j) (by omega) (a1N hjk))) ?_;refine d_t 9 rfl rfl (by kernel_rfl) rfl (fun _ m=>m.keeps (.refl _)) (a1L rfl rfl h21 (a0c rfl)) ?_;refine d_t 10 rfl rfl (by kernel_rfl) rfl (fun _ m=>m.keeps (.refl _)) (a1L rfl rfl h21 (a0c rfl)) ?_;refine d_t 11 rfl rfl (by kernel_rfl) rfl (fun _ m=>m.keeps (.refl _)) (a1L rfl rfl h21 (a1v rfl rfl ⟨by omega,by omega⟩)) ?_;refine d_t 12 rfl rfl (by kernel_rfl) rfl (fun _ m=>m.keeps (.refl _)) (a1L rfl rfl h21 (a0n he rfl rfl rfl (j-1) (by omega) (by omega))) ?_;refine d_t 13 rfl rfl (by kernel_rfl) rfl (fun _ m=>m.keeps (.refl _)) (a1L rfl rfl h21 (a1S m0 (a0s _) he rfl (j-1) (by omega) (a1N hjk1))) ?_;refine a0i 14 (by kernel_rfl) rfl ?_;refine a0y rfl rfl h21 (a0a (hp _ _) rfl rfl ?_);refine a0r (fun _ m=>m.keeps (.refl _)) ?_;refine d_t 15 rfl rfl (by kernel_rfl) rfl (fun _ m=>m.keeps (.refl _)) (a1L rfl rfl h21 (a8n rfl rfl)) ?_;refine a0f 16 rfl rfl (by kernel_rfl) rfl (.refl _) rfl (a8m h21 rfl rfl) ?_;refine a0w (by kernel_rfl) ?_;refine go 1 ?_;refine cb rfl (fun h34 p34=>?_) (fun h34 p34=>?_)
   ·refine go 4 ?_;refine a1t T.mixed ?_;refine a0f 0 rfl rfl (by kernel_rfl) rfl (.cons _ .slnil) rfl (a0c rfl) ?_;refine a0f 1 rfl rfl (by kernel_rfl) rfl (.cons _ .slnil) rfl (a0c rfl) ?_;refine a0f 2 rfl rfl (by kernel_rfl) rfl (.cons _ .slnil) rfl (a0c rfl) ?_;refine a0f 3 rfl rfl (by kernel_rfl) rfl (.cons _ .slnil) rfl (a0c rfl) ?_;refine a0f 4 rfl rfl (by kernel_rfl) rfl (.cons _ .slnil) rfl (a1v rfl rfl ⟨by omega,by omega⟩) ?_;refine a0f 5 rfl rfl (by kernel_rfl) rfl (.cons _ .slnil) rfl (a0c rfl) ?_;refine a0f 6 rfl rfl (by kernel_rfl) rfl (.cons _ .slnil) rfl (a0c rfl) ?_;refine a0f 7 rfl rfl (by kernel_rfl) rfl (.cons _ .slnil) rfl (a1v rfl rfl ⟨by omega,by omega⟩) ?_;refine a0f 8 rfl rfl (by kernel_rfl) rfl (.cons _ .slnil) rfl (a0n he rfl rfl rfl (j-1) (by omega) (by omega)) ?_;refine a0f 10 rfl rfl (by kernel_rfl) rfl (.cons _ .slnil) rfl (a0c rfl) ?_;refine a0f 11 rfl rfl (by kernel_rfl) rfl (.cons _ .slnil) rfl (a0c rfl) ?_;refine a0f 12 rfl rfl (by kernel_rfl) rfl (.cons _ .slnil) rfl (a0n he rfl rfl rfl (j) (by omega) (by omega)) ?_;refine a2A 9 13 (by kernel_rfl) rfl rfl ?_ ?_
    ·refine a0l rfl (a1S m0 (a0s _) he rfl (j-1) (by omega) (a1N hjk1)) ?_;refine a0r (fun _ m=>m.keeps (.cons _ .slnil)) ?_;refine a0i 13 (by kernel_rfl) rfl ?_;refine a0l rfl (a1S m0 (a0s _) he rfl (j) (by omega) (a1N hjk)) ?_;refine a0r (fun _ m=>m.keeps (.cons _ .slnil)) ?_;refine a0f 14 rfl rfl (by kernel_rfl) rfl (.cons _ .slnil) rfl (a0n he rfl rfl rfl (j) (by omega) (by omega)) ?_;refine a0i 15 (by kernel_rfl) rfl ?_;refine a2b _ (j) (by first|exact a0s _|exact (a0s _).set rfl _) he rfl rfl rfl rfl rfl (by omega) (by simp[a0D];omega) ?_;refine a0r (fun _ m=>m.keeps (.cons _ .slnil)) ?_;refine a0f 16 rfl rfl (by kernel_rfl) rfl (.cons _ .slnil) rfl (a0n he rfl rfl rfl (j-1) (by omega) (by omega)) ?_;refine a0i 17 (by kernel_rfl) rfl ?_;refine a2b _ (j-1) (by first|exact a0s _|exact (a0s _).set rfl _) he rfl rfl rfl rfl rfl (by omega) (by simp[a0D];omega) ?_;refine a0r (fun _ m=>m.keeps (.cons _ .slnil)) ?_;refine a0w (by kernel_rfl) ?_;refine go 4 ?_;refine o_v rfl (OV.cast (u:=.int .i64 ((j-1:Nat):Int)) (a1v rfl rfl ⟨by omega,by omega⟩) (congrArg (Value.int .i64) (by omega))) ?_;refine go 3 ?_;exact a0M (j-1) (swp k j (j-1)) ⟨by omega,by omega,hk.step (by omega) (by omega) (by omega) (by have:=p34;simp only[a7c]at this;rw[a1z (by omega),a1z (by omega)];exact this)⟩ (by omega) rfl sb (by first|rw[←a4U (show j<k.length by omega) (show j-1<k.length by omega)] | rw[←a3W (show j<k.length by omega) (show j-1<k.length by omega) (by omega)])
    ·refine a0l rfl (a1S m0 (a0s _) he rfl (j) (by omega) (a1N hjk)) ?_;refine a0r (fun _ m=>m.keeps (.cons _ .slnil)) ?_;refine a0i 9 (by kernel_rfl) rfl ?_;refine a0l rfl (a1S m0 (a0s _) he rfl (j-1) (by omega) (a1N hjk1)) ?_;refine a0r (fun _ m=>m.keeps (.cons _ .slnil)) ?_;refine a0f 14 rfl rfl (by kernel_rfl) rfl (.cons _ .slnil) rfl (a0n he rfl rfl rfl (j) (by omega) (by omega)) ?_;refine a0i 15 (by kernel_rfl) rfl ?_;refine a2b _ (j) (by first|exact a0s _|exact (a0s _).set rfl _) he rfl rfl rfl rfl rfl (by omega) (by simp[a0D];omega) ?_;refine a0r (fun _ m=>m.keeps (.cons _ .slnil)) ?_;refine a0f 16 rfl rfl (by kernel_rfl) rfl (.cons _ .slnil) rfl (a0n he rfl rfl rfl (j-1) (by omega) (by omega)) ?_;refine a0i 17 (by kernel_rfl) rfl ?_;refine a2b _ (j-1) (by first|exact a0s _|exact (a0s _).set rfl _) he rfl rfl rfl rfl rfl (by omega) (by simp[a0D];omega) ?_;refine a0r (fun _ m=>m.keeps (.cons _ .slnil)) ?_;refine a0w (by kernel_rfl) ?_;refine go 4 ?_;refine o_v rfl (OV.cast (u:=.int .i64 ((j-1:Nat):Int)) (a1v rfl rfl ⟨by omega,by omega⟩) (congrArg (Value.int .i64) (by omega))) ?_;refine go 3 ?_;exact a0M (j-1) (swp k j (j-1)) ⟨by omega,by omega,hk.step (by omega) (by omega) (by omega) (by have:=p34;simp only[a7c]at this;rw[a1z (by omega),a1z (by omega)];exact this)⟩ (by omega) rfl sb (by first|rw[←a4U (show j<k.length by omega) (show j-1<k.length by omega)] | rw[←a3W (show j<k.length by omega) (show j-1<k.length by omega) (by omega)])
   ·refine go 12 ?_;exact a0M (i+1) (k) ⟨by omega,.inl (by omega),hk.done (by omega) (by omega) (.inr (by have:=p34;simp only[a7c]at this;rw[a1z (by omega),a1z (by omega)];omega))⟩ (by omega) rfl sb rfl
  ·refine d_t 4 rfl rfl (by kernel_rfl) rfl (fun _ m=>m.keeps (.refl _)) (a3h rfl rfl h21) ?_;refine d_t 5 rfl rfl (by kernel_rfl) rfl (fun _ m=>m.keeps (.refl _)) (a3h rfl rfl h21) ?_;refine d_t 6 rfl rfl (by kernel_rfl) rfl (fun _ m=>m.keeps (.refl _)) (a3h rfl rfl h21) ?_;refine d_t 7 rfl rfl (by kernel_rfl) rfl (fun _ m=>m.keeps (.refl _)) (a3h rfl rfl h21) ?_;refine d_t 8 rfl rfl (by kernel_rfl) rfl (fun _ m=>m.keeps (.refl _)) (a3h rfl rfl h21) ?_;refine d_t 9 rfl rfl (by kernel_rfl) rfl (fun _ m=>m.keeps (.refl _)) (a3h rfl rfl h21) ?_;refine d_t 10 rfl rfl (by kernel_rfl) rfl (fun _ m=>m.keeps (.refl _)) (a3h rfl rfl h21) ?_;refine d_t 11 rfl rfl (by kernel_rfl) rfl (fun _ m=>m.keeps (.refl _)) (a3h rfl rfl h21) ?_;refine d_t 12 rfl rfl (by kernel_rfl) rfl (fun _ m=>m.keeps (.refl _)) (a3h rfl rfl h21) ?_;refine d_t 13 rfl rfl (by kernel_rfl) rfl (fun _ m=>m.keeps (.refl _)) (a3h rfl rfl h21) ?_;refine d_t 14 rfl rfl (by kernel_rfl) rfl (fun _ m=>m.keeps (.refl _)) (a3h rfl rfl h21) ?_;refine d_t 15 rfl rfl (by kernel_rfl) rfl (fun _ m=>m.keeps (.refl _)) (a3h rfl rfl h21) ?_;refine a0f 16 rfl rfl (by kernel_rfl) rfl (.refl _) rfl (a8l h21 rfl) ?_;refine a0w (by kernel_rfl) ?_;refine go 1 ?_;refine a0P rfl ?_;refine go 12 ?_;exact a0M (i+1) (k) ⟨by omega,.inl (by omega),hk.done (by omega) (by omega) (.inl (by omega))⟩ (by omega) rfl sb rfl
 ·refine go 4 ?_;refine a4y rfl ?_;exact q_x (by refine⟨rfl,m,rfl,?_⟩;rcases h2 with h2|⟨rfl,h2⟩;exact (show i=b by omega)▸hs;exact Seg.none (by omega))
theorem d0y (I:IMap) (l:List Evt) (N:Nat) (hN:l.length=N) (g a m b:Nat) (f:FuncId) (ham:a<m) (hmb:m<b) (hb:b≤l.length) (hl:l.length≤1000000) :
    FnX Tryz.prog 341 #[.slice (some ⟨g,0,none⟩) N N,.int .i64 ((a:Nat):Int),.int .i64 ((m:Nat):Int),.int .i64 ((b:Nat):Int),.func (.func f) #[] #[]] I [.blk g 96 (a1O (l)).flatten] (fun u r=>u = .tuple #[]∧∃k,r = .blk g 96 (a1O (k)).flatten∧k.length=l.length∧∀q,k[q]? = a8f (l[·]?) m (m-a) (b-m) q):=by
 refine enter Tryz.func341 Tryz.call341 rfl Tryz.ntmps341 rfl (fun w0=>?_);refine go 4 ?_;refine o_v rfl (OV.cast (u:=.int .i64 ((m-a:Nat):Int)) (a1v rfl rfl ⟨by omega,by omega⟩) (congrArg (Value.int .i64) (by omega))) ?_;refine go 7 ?_;refine o_v rfl (OV.cast (u:=.int .i64 ((b-m:Nat):Int)) (a1v rfl rfl ⟨by omega,by omega⟩) (congrArg (Value.int .i64) (by omega))) ?_;refine go 5 ?_
 refine a3B (m-a) (b-m) (l) (fun i j k=>I)
  (fun i j k=>[(0,.slice (some ⟨g,0,none⟩) N N),(1,.int .i64 ((a:Nat):Int)),(2,.int .i64 ((m:Nat):Int)),(3,.int .i64 ((b:Nat):Int)),(4,.func (.func f) #[] #[]),(10,.int .i64 ((i:Nat):Int)),(11,.int .i64 ((j:Nat):Int))])
  (fun i j k=>[.blk g 96 (a1O (k)).flatten])
  (fun i j k=>1≤i∧1≤j∧i≤m∧m+j≤l.length∧k.length=l.length∧∀q,a8f (k[·]?) m i j q=a8f (l[·]?) m (m-a) (b-m) q)
  (fun i j k=>i+j) ⟨by omega,by omega,by omega,by omega,rfl,fun q=>rfl⟩ rfl sb rfl ?_
 intro i j k ⟨hi1,hj1,him,hmj,hkl,hk⟩;refine go 8 ?_;refine cb rfl (fun h20 p20=>?_) (fun h20 p20=>?_)
 ·refine go 10 ?_;refine cb rfl (fun h23 p23=>?_) (fun h23 p23=>?_)
  ·refine go 5 ?_;refine o_v rfl (OV.cast (u:=.int .i64 ((m-i:Nat):Int)) (a1v rfl rfl ⟨by omega,by omega⟩) (congrArg (Value.int .i64) (by omega))) ?_;refine go 4 ?_;refine a4G (b0g _ k N (by omega) g (m-i) m j f (by omega) (by omega) (by omega)) rfl rfl ?_;refine go 5 ?_;refine o_v rfl (OV.cast (u:=.int .i64 ((i-j:Nat):Int)) (a1v rfl rfl ⟨by omega,by omega⟩) (congrArg (Value.int .i64) (by omega))) ?_;refine go 4 ?_;exact a1X (i-j) (j) (a9i k (m-i) m j) ⟨by omega,by omega,by omega,by omega,(a3T _ _ _ _).trans hkl,fun q=>(c5C (by omega) (by omega) (a5K _ (by omega) (by omega)) q).trans (hk q)⟩ (by omega) rfl sb rfl
  ·refine go 5 ?_;refine o_v rfl (OV.cast (u:=.int .i64 ((m-i:Nat):Int)) (a1v rfl rfl ⟨by omega,by omega⟩) (congrArg (Value.int .i64) (by omega))) ?_;refine go 4 ?_;refine o_v rfl (OV.cast (u:=.int .i64 ((m+j-i:Nat):Int)) (a1v rfl rfl ⟨by omega,by omega⟩) (congrArg (Value.int .i64) (by omega))) ?_;refine go 3 ?_;refine a4G (b0g _ k N (by omega) g (m-i) (m+j-i) i f (by omega) (by omega) (by omega)) rfl rfl ?_;refine go 5 ?_;refine o_v rfl (OV.cast (u:=.int .i64 ((j-i:Nat):Int)) (a1v rfl rfl ⟨by omega,by omega⟩) (congrArg (Value.int .i64) (by omega))) ?_;refine go 4 ?_;exact a1X (i) (j-i) (a9i k (m-i) (m+j-i) i) ⟨by omega,by omega,by omega,by omega,(a3T _ _ _ _).trans hkl,fun q=>(c5D (by omega) (by omega) (a5K _ (by omega) (by omega)) q).trans (hk q)⟩ (by omega) rfl sb rfl
 ·obtain rfl:i=j:=by have:=p20;omega
  refine go 9 ?_;refine o_v rfl (OV.cast (u:=.int .i64 ((m-i:Nat):Int)) (a1v rfl rfl ⟨by omega,by omega⟩) (congrArg (Value.int .i64) (by omega))) ?_;refine go 4 ?_;refine a4G (b0g _ k N (by omega) g (m-i) m i f (by omega) (by omega) (by omega)) rfl rfl ?_;refine go 1 ?_;refine a4y rfl ?_;exact q_x ⟨rfl,a9i k (m-i) m i,rfl,(a3T _ _ _ _).trans hkl,fun q=>(c5B him (a5K _ (by omega) (by omega)) q).trans (hk q)⟩
theorem c1N (I:IMap) (N g:Nat) (f:FuncId) (hp:∀x y:Evt,FnV Tryz.prog f #[.agg (Day.ch x).toArray,.agg (Day.ch y).toArray] I (.int .i64 (b4H (Day.day x) (Day.day y)))) (hN0:N≤1000000) (W:Nat) (ih:∀(l:List Evt) (a m b:Nat),l.length=N→b-a<W→a<m→m<b→b≤l.length→SrtD l a m→SrtD l m b→FnX Tryz.prog 317 #[.slice (some ⟨g,0,none⟩) N N,.int .i64 ((a:Nat):Int),.int .i64 ((m:Nat):Int),.int .i64 ((b:Nat):Int),.func (.func f) #[] #[]] I [.blk g 96 (a1O (l)).flatten] (fun u r=>u = .tuple #[]∧∃m,r = .blk g 96 (a1O (m)).flatten∧Seg l m a b)) (l:List Evt) (a m b:Nat) (hN:l.length=N) (hW:b-a≤W) (ham:a<m) (hmb:m<b) (hb:b≤l.length) (m1:SrtD l a m) (m2:SrtD l m b) :
    FnX Tryz.prog 317 #[.slice (some ⟨g,0,none⟩) N N,.int .i64 ((a:Nat):Int),.int .i64 ((m:Nat):Int),.int .i64 ((b:Nat):Int),.func (.func f) #[] #[]] I [.blk g 96 (a1O (l)).flatten] (fun u r=>u = .tuple #[]∧∃m,r = .blk g 96 (a1O (m)).flatten∧Seg l m a b):=by
 refine enter Tryz.func317 Tryz.call317 rfl Tryz.ntmps317 rfl (fun w0=>?_);refine go 5 ?_;refine o_v rfl (OV.cast (u:=.int .i64 ((m-a:Nat):Int)) (a1v rfl rfl ⟨by omega,by omega⟩) (congrArg (Value.int .i64) (by omega))) ?_;refine go 3 ?_;refine cb rfl (fun h28 p28=>?_) (fun h28 p28=>?_)
 ·obtain rfl:m=a+1:=by omega
  refine go 14 ?_
  refine a1w (a+1) (b) (fun i j=>I)
   (fun i j=>[(0,.slice (some ⟨g,0,none⟩) N N),(1,.int .i64 ((a:Nat):Int)),(2,.int .i64 ((a+1:Nat):Int)),(3,.int .i64 ((b:Nat):Int)),(4,.func (.func f) #[] #[]),(10,.int .i64 ((i:Nat):Int)),(11,.int .i64 ((j:Nat):Int))])
   (fun i j=>[.blk g 96 (a1O (l)).flatten])
   (fun i j=>a+1≤i∧i≤j∧j≤b∧(∀q,a+1≤q→q<i→a0C l q<a0C l a)∧(∀q,j≤q→q<b→a0C l a≤a0C l q))
   (fun i j=>j-i) ⟨by omega,by omega,by omega,fun q _ _=>by omega,fun q _ _=>by omega⟩ rfl sb rfl ?_
  intro i j ⟨hi1,hij,hjb,hlo,hhi⟩;refine go 8 ?_;refine cb rfl (fun h33 p33=>?_) (fun h33 p33=>?_)
  ·have hh:(i+j) / 2<l.length:=by omega
   have ha0:a<l.length:=by omega
   refine go 8 ?_;refine o_v rfl (a2k he he rfl (m:=(i:Int)+(j:Int)) (wrap_u64 _ (by omega) (by omega))) ?_;refine o_v rfl (a6A rfl (by decide)) ?_;refine o_v rfl (a2k he he rfl (m:=(((i+j) / 2:Nat):Int)) (by rw[IntKind.wrap_i64];omega)) ?_;refine go 4 ?_;refine a1h T.mixed ?_;refine a0f 0 rfl rfl (by kernel_rfl) rfl (.refl _) rfl (a0c rfl) ?_;refine a0f 1 rfl rfl (by kernel_rfl) rfl (.refl _) rfl (a0c rfl) ?_;refine a0f 2 rfl rfl (by kernel_rfl) rfl (.refl _) rfl (a0c rfl) ?_;refine a0f 3 rfl rfl (by kernel_rfl) rfl (.refl _) rfl (a0n he rfl rfl rfl ((i+j) / 2) (by omega) (by omega)) ?_;refine a0f 4 rfl rfl (by kernel_rfl) rfl (.refl _) rfl (a1S m0 (a0s _) he rfl ((i+j) / 2) (by omega) (a1N hh)) ?_;refine a0f 5 rfl rfl (by kernel_rfl) rfl (.refl _) rfl (a0c rfl) ?_;refine a0f 6 rfl rfl (by kernel_rfl) rfl (.refl _) rfl (a0c rfl) ?_;refine a0f 7 rfl rfl (by kernel_rfl) rfl (.refl _) rfl (a0n he rfl rfl rfl (a) (by omega) (by omega)) ?_;refine a0f 8 rfl rfl (by kernel_rfl) rfl (.refl _) rfl (a1S m0 (a0s _) he rfl (a) (by omega) (a1N ha0)) ?_;refine a0i 9 (by kernel_rfl) rfl ?_;refine a0a (hp _ _) rfl rfl ?_;refine a0r (fun _ m=>m.keeps (.refl _)) ?_;refine a0f 10 rfl rfl (by kernel_rfl) rfl (.refl _) rfl (a8n rfl rfl) ?_;refine a0w (by kernel_rfl) ?_;refine go 1 ?_;refine cb rfl (fun h50 p50=>?_) (fun h50 p50=>?_)
   ·refine go 7 ?_;exact a0M ((i+j) / 2+1) (j) ⟨by omega,by omega,by omega,fun q q1 q2=>by have:=m2.le (p:=q) (q:=(i+j) / 2) q1 (by omega) (by omega);have:=b9N p50;omega,hhi⟩ (by omega) rfl sb rfl
   ·refine go 6 ?_;exact a0M (i) ((i+j) / 2) ⟨by omega,by omega,by omega,hlo,fun q q1 q2=>by have:=m2.le (p:=(i+j) / 2) (q:=q) (by omega) q1 q2;have:=b9M p50;omega⟩ (by omega) rfl sb rfl
  ·obtain rfl:i=j:=by omega
   refine go 13 ?_
   refine a0L (α:=Nat) 0 (fun t=>I)
    (fun t=>[(0,.slice (some ⟨g,0,none⟩) N N),(1,.int .i64 ((a:Nat):Int)),(2,.int .i64 ((a+1:Nat):Int)),(3,.int .i64 ((b:Nat):Int)),(4,.func (.func f) #[] #[]),(10,.int .i64 ((i:Nat):Int)),(13,.int .i64 ((a+t:Nat):Int))])
    (fun t=>[.blk g 96 (a1O (bub l a t)).flatten])
    (fun t=>a+t+1≤i)
    (fun t=>i-t) (by omega) rfl sb rfl ?_
   intro t ht;refine go 5 ?_;refine o_v rfl (OV.cast (u:=.int .i64 ((i-1:Nat):Int)) (a1v rfl rfl ⟨by omega,by omega⟩) (congrArg (Value.int .i64) (by omega))) ?_;refine go 3 ?_;refine cb rfl (fun h58 p58=>?_) (fun h58 p58=>?_)
   ·have hbl:=a9s l a t
    have hk1:a+t<(bub l a t).length:=by omega
    have hk2:a+t+1<(bub l a t).length:=by omega
    refine go 4 ?_;refine a1t T.mixed ?_;refine a0f 0 rfl rfl (by kernel_rfl) rfl (.cons _ .slnil) rfl (a0c rfl) ?_;refine a0f 1 rfl rfl (by kernel_rfl) rfl (.cons _ .slnil) rfl (a0c rfl) ?_;refine a0f 2 rfl rfl (by kernel_rfl) rfl (.cons _ .slnil) rfl (a0c rfl) ?_;refine a0f 3 rfl rfl (by kernel_rfl) rfl (.cons _ .slnil) rfl (a0c rfl) ?_;refine a0f 4 rfl rfl (by kernel_rfl) rfl (.cons _ .slnil) rfl (OV.cast (u:=.int .i64 ((a+t+1:Nat):Int)) (a2c rfl rfl ⟨by omega,by omega⟩) (congrArg (Value.int .i64) (by omega))) ?_;refine a0f 5 rfl rfl (by kernel_rfl) rfl (.cons _ .slnil) rfl (a0c rfl) ?_;refine a0f 6 rfl rfl (by kernel_rfl) rfl (.cons _ .slnil) rfl (a0c rfl) ?_;refine a0f 7 rfl rfl (by kernel_rfl) rfl (.cons _ .slnil) rfl (OV.cast (u:=.int .i64 ((a+t+1:Nat):Int)) (a2c rfl rfl ⟨by omega,by omega⟩) (congrArg (Value.int .i64) (by omega))) ?_;refine a0f 8 rfl rfl (by kernel_rfl) rfl (.cons _ .slnil) rfl (a0n he rfl rfl rfl (a+t+1) (by omega) (by omega)) ?_;refine a0f 10 rfl rfl (by kernel_rfl) rfl (.cons _ .slnil) rfl (a0c rfl) ?_;refine a0f 11 rfl rfl (by kernel_rfl) rfl (.cons _ .slnil) rfl (a0c rfl) ?_;refine a0f 12 rfl rfl (by kernel_rfl) rfl (.cons _ .slnil) rfl (a0n he rfl rfl rfl (a+t) (by omega) (by omega)) ?_;refine a2A 9 13 (by kernel_rfl) rfl rfl ?_ ?_
    ·refine a0l rfl (a1S m0 (a0s _) he rfl (a+t+1) (by omega) (a1N hk2)) ?_;refine a0r (fun _ m=>m.keeps (.cons _ .slnil)) ?_;refine a0i 13 (by kernel_rfl) rfl ?_;refine a0l rfl (a1S m0 (a0s _) he rfl (a+t) (by omega) (a1N hk1)) ?_;refine a0r (fun _ m=>m.keeps (.cons _ .slnil)) ?_;refine a0f 14 rfl rfl (by kernel_rfl) rfl (.cons _ .slnil) rfl (a0n he rfl rfl rfl (a+t) (by omega) (by omega)) ?_;refine a0i 15 (by kernel_rfl) rfl ?_;refine a2b _ (a+t) (by first|exact a0s _|exact (a0s _).set rfl _) he rfl rfl rfl rfl rfl (by omega) (by simp[a0D];omega) ?_;refine a0r (fun _ m=>m.keeps (.cons _ .slnil)) ?_;refine a0f 16 rfl rfl (by kernel_rfl) rfl (.cons _ .slnil) rfl (a0n he rfl rfl rfl (a+t+1) (by omega) (by omega)) ?_;refine a0i 17 (by kernel_rfl) rfl ?_;refine a2b _ (a+t+1) (by first|exact a0s _|exact (a0s _).set rfl _) he rfl rfl rfl rfl rfl (by omega) (by simp[a0D];omega) ?_;refine a0r (fun _ m=>m.keeps (.cons _ .slnil)) ?_;refine a0w (by kernel_rfl) ?_;refine go 4 ?_;refine o_v rfl (OV.cast (u:=.int .i64 ((a+(t+1):Nat):Int)) (a2c rfl rfl ⟨by omega,by omega⟩) (congrArg (Value.int .i64) (by omega))) ?_;refine go 3 ?_;exact a0J (t+1) (by omega) (by omega) rfl sb (by rw[bub];first|rw[←a4U hk1 hk2] | rw[←a3W hk1 hk2 (by omega)])
    ·refine a0l rfl (a1S m0 (a0s _) he rfl (a+t) (by omega) (a1N hk1)) ?_;refine a0r (fun _ m=>m.keeps (.cons _ .slnil)) ?_;refine a0i 9 (by kernel_rfl) rfl ?_;refine a0l rfl (a1S m0 (a0s _) he rfl (a+t+1) (by omega) (a1N hk2)) ?_;refine a0r (fun _ m=>m.keeps (.cons _ .slnil)) ?_;refine a0f 14 rfl rfl (by kernel_rfl) rfl (.cons _ .slnil) rfl (a0n he rfl rfl rfl (a+t) (by omega) (by omega)) ?_;refine a0i 15 (by kernel_rfl) rfl ?_;refine a2b _ (a+t) (by first|exact a0s _|exact (a0s _).set rfl _) he rfl rfl rfl rfl rfl (by omega) (by simp[a0D];omega) ?_;refine a0r (fun _ m=>m.keeps (.cons _ .slnil)) ?_;refine a0f 16 rfl rfl (by kernel_rfl) rfl (.cons _ .slnil) rfl (a0n he rfl rfl rfl (a+t+1) (by omega) (by omega)) ?_;refine a0i 17 (by kernel_rfl) rfl ?_;refine a2b _ (a+t+1) (by first|exact a0s _|exact (a0s _).set rfl _) he rfl rfl rfl rfl rfl (by omega) (by simp[a0D];omega) ?_;refine a0r (fun _ m=>m.keeps (.cons _ .slnil)) ?_;refine a0w (by kernel_rfl) ?_;refine go 4 ?_;refine o_v rfl (OV.cast (u:=.int .i64 ((a+(t+1):Nat):Int)) (a2c rfl rfl ⟨by omega,by omega⟩) (congrArg (Value.int .i64) (by omega))) ?_;refine go 3 ?_;exact a0J (t+1) (by omega) (by omega) rfl sb (by rw[bub];first|rw[←a4U hk1 hk2] | rw[←a3W hk1 hk2 (by omega)])
   ·refine go 7 ?_;refine c3i rfl ?_;exact q_x ⟨rfl,_,rfl,(show i-1-a=t by omega)▸b6I m2 hi1 hjb hb hlo hhi⟩
 ·have hma:a+2≤m:=by omega
  refine go 7 ?_;refine o_v rfl (OV.cast (u:=.int .i64 ((b-m:Nat):Int)) (a1v rfl rfl ⟨by omega,by omega⟩) (congrArg (Value.int .i64) (by omega))) ?_;refine go 3 ?_;refine cb rfl (fun h80 p80=>?_) (fun h80 p80=>?_)
  ·obtain rfl:b=m+1:=by omega
   refine go 14 ?_
   refine a1w (a) (m) (fun i j=>I)
    (fun i j=>[(0,.slice (some ⟨g,0,none⟩) N N),(1,.int .i64 ((a:Nat):Int)),(2,.int .i64 ((m:Nat):Int)),(3,.int .i64 ((m+1:Nat):Int)),(4,.func (.func f) #[] #[]),(14,.int .i64 ((i:Nat):Int)),(15,.int .i64 ((j:Nat):Int))])
    (fun i j=>[.blk g 96 (a1O (l)).flatten])
    (fun i j=>a≤i∧i≤j∧j≤m∧(∀q,a≤q→q<i→a0C l q≤a0C l m)∧(∀q,j≤q→q<m→a0C l m<a0C l q))
    (fun i j=>j-i) ⟨by omega,by omega,by omega,fun q _ _=>by omega,fun q _ _=>by omega⟩ rfl sb rfl ?_
   intro i j ⟨hi1,hij,hjb,hlo,hhi⟩;refine go 8 ?_;refine cb rfl (fun h85 p85=>?_) (fun h85 p85=>?_)
   ·have hh:(i+j) / 2<l.length:=by omega
    have hm0:m<l.length:=by omega
    refine go 8 ?_;refine o_v rfl (a2k he he rfl (m:=(i:Int)+(j:Int)) (wrap_u64 _ (by omega) (by omega))) ?_;refine o_v rfl (a6A rfl (by decide)) ?_;refine o_v rfl (a2k he he rfl (m:=(((i+j) / 2:Nat):Int)) (by rw[IntKind.wrap_i64];omega)) ?_;refine go 4 ?_;refine a1h T.mixed ?_;refine a0f 0 rfl rfl (by kernel_rfl) rfl (.refl _) rfl (a0c rfl) ?_;refine a0f 1 rfl rfl (by kernel_rfl) rfl (.refl _) rfl (a0c rfl) ?_;refine a0f 2 rfl rfl (by kernel_rfl) rfl (.refl _) rfl (a0c rfl) ?_;refine a0f 3 rfl rfl (by kernel_rfl) rfl (.refl _) rfl (a0n he rfl rfl rfl (m) (by omega) (by omega)) ?_;refine a0f 4 rfl rfl (by kernel_rfl) rfl (.refl _) rfl (a1S m0 (a0s _) he rfl (m) (by omega) (a1N hm0)) ?_;refine a0f 5 rfl rfl (by kernel_rfl) rfl (.refl _) rfl (a0c rfl) ?_;refine a0f 6 rfl rfl (by kernel_rfl) rfl (.refl _) rfl (a0c rfl) ?_;refine a0f 7 rfl rfl (by kernel_rfl) rfl (.refl _) rfl (a0n he rfl rfl rfl ((i+j) / 2) (by omega) (by omega)) ?_;refine a0f 8 rfl rfl (by kernel_rfl) rfl (.refl _) rfl (a1S m0 (a0s _) he rfl ((i+j) / 2) (by omega) (a1N hh)) ?_;refine a0i 9 (by kernel_rfl) rfl ?_;refine a0a (hp _ _) rfl rfl ?_;refine a0r (fun _ m=>m.keeps (.refl _)) ?_;refine a0f 10 rfl rfl (by kernel_rfl) rfl (.refl _) rfl (a8n rfl rfl) ?_;refine a0f 11 rfl rfl (by kernel_rfl) rfl (.refl _) rfl (b8V rfl) ?_;refine a0w (by kernel_rfl) ?_;refine go 1 ?_;refine cb rfl (fun h103 p103=>?_) (fun h103 p103=>?_)
    ·refine go 7 ?_;exact a0M ((i+j) / 2+1) (j) ⟨by omega,by omega,by omega,fun q q1 q2=>by have:=m1.le (p:=q) (q:=(i+j) / 2) q1 (by omega) (by omega);have:=b9M p103;omega,hhi⟩ (by omega) rfl sb rfl
    ·refine go 6 ?_;exact a0M (i) ((i+j) / 2) ⟨by omega,by omega,by omega,hlo,fun q q1 q2=>by have:=m1.le (p:=(i+j) / 2) (q:=q) (by omega) q1 q2;have:=b9N p103;omega⟩ (by omega) rfl sb rfl
   ·obtain rfl:i=j:=by omega
    refine go 13 ?_
    refine a0L (α:=Nat) 0 (fun t=>I)
     (fun t=>[(0,.slice (some ⟨g,0,none⟩) N N),(1,.int .i64 ((a:Nat):Int)),(2,.int .i64 ((m:Nat):Int)),(3,.int .i64 ((m+1:Nat):Int)),(4,.func (.func f) #[] #[]),(14,.int .i64 ((i:Nat):Int)),(17,.int .i64 ((m-t:Nat):Int))])
     (fun t=>[.blk g 96 (a1O (bud l m t)).flatten])
     (fun t=>t+i≤m)
     (fun t=>m-t) (by omega) rfl ⟨rfl,rfl,rfl,rfl,rfl,rfl,congrArg (fun z:Int=>some (Value.int .i64 z)) (by omega),trivial⟩ rfl ?_
    intro t ht;refine go 8 ?_;refine cb rfl (fun h110 p110=>?_) (fun h110 p110=>?_)
    ·have hbl:=a9t l m t
     have hk1:m-t<(bud l m t).length:=by omega
     have hk2:m-t-1<(bud l m t).length:=by omega
     refine go 4 ?_;refine a1t T.mixed ?_;refine a0f 0 rfl rfl (by kernel_rfl) rfl (.cons _ .slnil) rfl (a0c rfl) ?_;refine a0f 1 rfl rfl (by kernel_rfl) rfl (.cons _ .slnil) rfl (a0c rfl) ?_;refine a0f 2 rfl rfl (by kernel_rfl) rfl (.cons _ .slnil) rfl (a0c rfl) ?_;refine a0f 3 rfl rfl (by kernel_rfl) rfl (.cons _ .slnil) rfl (a0c rfl) ?_;refine a0f 4 rfl rfl (by kernel_rfl) rfl (.cons _ .slnil) rfl (OV.cast (u:=.int .i64 ((m-t-1:Nat):Int)) (a1v rfl rfl ⟨by omega,by omega⟩) (congrArg (Value.int .i64) (by omega))) ?_;refine a0f 5 rfl rfl (by kernel_rfl) rfl (.cons _ .slnil) rfl (a0c rfl) ?_;refine a0f 6 rfl rfl (by kernel_rfl) rfl (.cons _ .slnil) rfl (a0c rfl) ?_;refine a0f 7 rfl rfl (by kernel_rfl) rfl (.cons _ .slnil) rfl (OV.cast (u:=.int .i64 ((m-t-1:Nat):Int)) (a1v rfl rfl ⟨by omega,by omega⟩) (congrArg (Value.int .i64) (by omega))) ?_;refine a0f 8 rfl rfl (by kernel_rfl) rfl (.cons _ .slnil) rfl (a0n he rfl rfl rfl (m-t-1) (by omega) (by omega)) ?_;refine a0f 10 rfl rfl (by kernel_rfl) rfl (.cons _ .slnil) rfl (a0c rfl) ?_;refine a0f 11 rfl rfl (by kernel_rfl) rfl (.cons _ .slnil) rfl (a0c rfl) ?_;refine a0f 12 rfl rfl (by kernel_rfl) rfl (.cons _ .slnil) rfl (a0n he rfl rfl rfl (m-t) (by omega) (by omega)) ?_;refine a2A 9 13 (by kernel_rfl) rfl rfl ?_ ?_
     ·refine a0l rfl (a1S m0 (a0s _) he rfl (m-t-1) (by omega) (a1N hk2)) ?_;refine a0r (fun _ m=>m.keeps (.cons _ .slnil)) ?_;refine a0i 13 (by kernel_rfl) rfl ?_;refine a0l rfl (a1S m0 (a0s _) he rfl (m-t) (by omega) (a1N hk1)) ?_;refine a0r (fun _ m=>m.keeps (.cons _ .slnil)) ?_;refine a0f 14 rfl rfl (by kernel_rfl) rfl (.cons _ .slnil) rfl (a0n he rfl rfl rfl (m-t) (by omega) (by omega)) ?_;refine a0i 15 (by kernel_rfl) rfl ?_;refine a2b _ (m-t) (by first|exact a0s _|exact (a0s _).set rfl _) he rfl rfl rfl rfl rfl (by omega) (by simp[a0D];omega) ?_;refine a0r (fun _ m=>m.keeps (.cons _ .slnil)) ?_;refine a0f 16 rfl rfl (by kernel_rfl) rfl (.cons _ .slnil) rfl (a0n he rfl rfl rfl (m-t-1) (by omega) (by omega)) ?_;refine a0i 17 (by kernel_rfl) rfl ?_;refine a2b _ (m-t-1) (by first|exact a0s _|exact (a0s _).set rfl _) he rfl rfl rfl rfl rfl (by omega) (by simp[a0D];omega) ?_;refine a0r (fun _ m=>m.keeps (.cons _ .slnil)) ?_;refine a0w (by kernel_rfl) ?_;refine go 4 ?_;refine o_v rfl (OV.cast (u:=.int .i64 ((m-(t+1):Nat):Int)) (a1v rfl rfl ⟨by omega,by omega⟩) (congrArg (Value.int .i64) (by omega))) ?_;refine go 3 ?_;exact a0J (t+1) (by omega) (by omega) rfl sb (by rw[bud];first|rw[←a4U hk1 hk2] | rw[←a3W hk1 hk2 (by omega)])
     ·refine a0l rfl (a1S m0 (a0s _) he rfl (m-t) (by omega) (a1N hk1)) ?_;refine a0r (fun _ m=>m.keeps (.cons _ .slnil)) ?_;refine a0i 9 (by kernel_rfl) rfl ?_;refine a0l rfl (a1S m0 (a0s _) he rfl (m-t-1) (by omega) (a1N hk2)) ?_;refine a0r (fun _ m=>m.keeps (.cons _ .slnil)) ?_;refine a0f 14 rfl rfl (by kernel_rfl) rfl (.cons _ .slnil) rfl (a0n he rfl rfl rfl (m-t) (by omega) (by omega)) ?_;refine a0i 15 (by kernel_rfl) rfl ?_;refine a2b _ (m-t) (by first|exact a0s _|exact (a0s _).set rfl _) he rfl rfl rfl rfl rfl (by omega) (by simp[a0D];omega) ?_;refine a0r (fun _ m=>m.keeps (.cons _ .slnil)) ?_;refine a0f 16 rfl rfl (by kernel_rfl) rfl (.cons _ .slnil) rfl (a0n he rfl rfl rfl (m-t-1) (by omega) (by omega)) ?_;refine a0i 17 (by kernel_rfl) rfl ?_;refine a2b _ (m-t-1) (by first|exact a0s _|exact (a0s _).set rfl _) he rfl rfl rfl rfl rfl (by omega) (by simp[a0D];omega) ?_;refine a0r (fun _ m=>m.keeps (.cons _ .slnil)) ?_;refine a0w (by kernel_rfl) ?_;refine go 4 ?_;refine o_v rfl (OV.cast (u:=.int .i64 ((m-(t+1):Nat):Int)) (a1v rfl rfl ⟨by omega,by omega⟩) (congrArg (Value.int .i64) (by omega))) ?_;refine go 3 ?_;exact a0J (t+1) (by omega) (by omega) rfl sb (by rw[bud];first|rw[←a4U hk1 hk2] | rw[←a3W hk1 hk2 (by omega)])
    ·refine go 7 ?_;refine c3i rfl ?_;exact q_x ⟨rfl,_,rfl,(show m-i=t by omega)▸b0V m1 hi1 hjb (by omega) hlo hhi⟩
  ·have hmb2:m+2≤b:=by omega
   refine go 7 ?_;refine o_v rfl (a2k he he rfl (m:=(a:Int)+(b:Int)) (wrap_u64 _ (by omega) (by omega))) ?_;refine o_v rfl (a6A rfl (by decide)) ?_;refine o_v rfl (a2k he he rfl (m:=(((a+b) / 2:Nat):Int)) (by rw[IntKind.wrap_i64];omega)) ?_;refine go 7 ?_;refine o_v rfl (OV.cast (u:=.int .i64 ((((a+b) / 2)+m:Nat):Int)) (a2c rfl rfl ⟨by omega,by omega⟩) (congrArg (Value.int .i64) (by omega))) ?_;refine go 10 ?_;refine a9u (Ix:=(fun S R=>I)) (Lx:=(fun S R=>[(0,.slice (some ⟨g,0,none⟩) N N),(1,.int .i64 ((a:Nat):Int)),(2,.int .i64 ((m:Nat):Int)),(3,.int .i64 ((b:Nat):Int)),(4,.func (.func f) #[] #[]),(18,.int .i64 ((((a+b) / 2):Nat):Int)),(19,.int .i64 ((((a+b) / 2)+m:Nat):Int)),(20,.int .i64 ((S:Nat):Int)),(21,.int .i64 ((R:Nat):Int))])) (Hx:=(fun S R=>[.blk g 96 (a1O (l)).flatten])) (p:=(fun S R=>(((a+b) / 2)<m∧S=((a+b) / 2)+m-b∧R=((a+b) / 2))∨(m≤((a+b) / 2)∧S=a∧R=m))) ?_ ?_
   ·refine go 7 ?_;refine cb rfl (fun h140 p140=>?_) (fun h140 p140=>?_)
    ·refine go 4 ?_;refine o_v rfl (OV.cast (u:=.int .i64 ((((a+b) / 2)+m-b:Nat):Int)) (a1v rfl rfl ⟨by omega,by omega⟩) (congrArg (Value.int .i64) (by omega))) ?_;refine go 8 ?_;exact a3N (((a+b) / 2)+m-b) (((a+b) / 2)) (.inl ⟨by omega,rfl,rfl⟩) sb rfl rfl
    ·refine go 11 ?_;exact a3N (a) (m) (.inr ⟨by omega,rfl,rfl⟩) sb rfl rfl
   ·intro S R hS;refine go 3 ?_;refine o_v rfl (OV.cast (u:=.int .i64 ((((a+b) / 2)+m-1:Nat):Int)) (a1v rfl rfl ⟨by omega,by omega⟩) (congrArg (Value.int .i64) (by omega))) ?_;refine go 5 ?_
    refine a1w (S) (R) (fun s r=>I)
     (fun s r=>[(0,.slice (some ⟨g,0,none⟩) N N),(1,.int .i64 ((a:Nat):Int)),(2,.int .i64 ((m:Nat):Int)),(3,.int .i64 ((b:Nat):Int)),(4,.func (.func f) #[] #[]),(18,.int .i64 ((((a+b) / 2):Nat):Int)),(19,.int .i64 ((((a+b) / 2)+m:Nat):Int)),(20,.int .i64 ((s:Nat):Int)),(21,.int .i64 ((r:Nat):Int)),(22,.int .i64 ((((a+b) / 2)+m-1:Nat):Int))])
     (fun s r=>[.blk g 96 (a1O (l)).flatten])
     (fun s r=>S≤s∧s≤r∧r≤R∧(∀q,S≤q→q<s→a0C l q≤a0C l (((a+b) / 2)+m-1-q))∧(∀q,r≤q→q<R→a0C l (((a+b) / 2)+m-1-q)<a0C l q))
     (fun s r=>r-s) ⟨by omega,by omega,by omega,fun q _ _=>by omega,fun q _ _=>by omega⟩ rfl sb rfl ?_
    intro s r ⟨hs1,hsr,hrR,hlo,hhi⟩;refine go 8 ?_;refine cb rfl (fun h151 p151=>?_) (fun h151 p151=>?_)
    ·have hh:(s+r) / 2<l.length:=by omega
     have hh2:((a+b) / 2)+m-1-(s+r) / 2<l.length:=by omega
     refine go 8 ?_;refine o_v rfl (a2k he he rfl (m:=(s:Int)+(r:Int)) (wrap_u64 _ (by omega) (by omega))) ?_;refine o_v rfl (a6A rfl (by decide)) ?_;refine o_v rfl (a2k he he rfl (m:=(((s+r) / 2:Nat):Int)) (by rw[IntKind.wrap_i64];omega)) ?_;refine go 4 ?_;refine a1h T.mixed ?_;refine a0f 0 rfl rfl (by kernel_rfl) rfl (.refl _) rfl (a0c rfl) ?_;refine a0f 1 rfl rfl (by kernel_rfl) rfl (.refl _) rfl (a0c rfl) ?_;refine a0f 2 rfl rfl (by kernel_rfl) rfl (.refl _) rfl (a0c rfl) ?_;refine a0f 3 rfl rfl (by kernel_rfl) rfl (.refl _) rfl (a0c rfl) ?_;refine a0f 4 rfl rfl (by kernel_rfl) rfl (.refl _) rfl (OV.cast (u:=.int .i64 ((((a+b) / 2)+m-1-(s+r) / 2:Nat):Int)) (a1v rfl rfl ⟨by omega,by omega⟩) (congrArg (Value.int .i64) (by omega))) ?_;refine a0f 5 rfl rfl (by kernel_rfl) rfl (.refl _) rfl (a0n he rfl rfl rfl (((a+b) / 2)+m-1-(s+r) / 2) (by omega) (by omega)) ?_;refine a0f 6 rfl rfl (by kernel_rfl) rfl (.refl _) rfl (a1S m0 (a0s _) he rfl (((a+b) / 2)+m-1-(s+r) / 2) (by omega) (a1N hh2)) ?_;refine a0f 7 rfl rfl (by kernel_rfl) rfl (.refl _) rfl (a0c rfl) ?_;refine a0f 8 rfl rfl (by kernel_rfl) rfl (.refl _) rfl (a0c rfl) ?_;refine a0f 9 rfl rfl (by kernel_rfl) rfl (.refl _) rfl (a0n he rfl rfl rfl ((s+r) / 2) (by omega) (by omega)) ?_;refine a0f 10 rfl rfl (by kernel_rfl) rfl (.refl _) rfl (a1S m0 (a0s _) he rfl ((s+r) / 2) (by omega) (a1N hh)) ?_;refine a0i 11 (by kernel_rfl) rfl ?_;refine a0a (hp _ _) rfl rfl ?_;refine a0r (fun _ m=>m.keeps (.refl _)) ?_;refine a0f 12 rfl rfl (by kernel_rfl) rfl (.refl _) rfl (a8n rfl rfl) ?_;refine a0f 13 rfl rfl (by kernel_rfl) rfl (.refl _) rfl (b8V rfl) ?_;refine a0w (by kernel_rfl) ?_;refine go 1 ?_;refine cb rfl (fun h171 p171=>?_) (fun h171 p171=>?_)
     ·refine go 7 ?_;exact a0M ((s+r) / 2+1) (r) ⟨by omega,by omega,by omega,c5H m1 m2 ham hmb rfl hS (h:=(s+r) / 2) (r:=r) (by omega) (by omega) hrR (b9M p171),hhi⟩ (by omega) rfl sb rfl
     ·refine go 6 ?_;exact a0M (s) ((s+r) / 2) ⟨by omega,by omega,by omega,hlo,c5G m1 m2 ham hmb rfl hS (h:=(s+r) / 2) (s:=s) hs1 (by omega) (by omega) (b9N p171)⟩ (by omega) rfl sb rfl
    ·obtain rfl:s=r:=by omega
     obtain⟨hx,hy⟩:=c1z m1 m2 ham hmb rfl hS hs1 hrR hlo hhi
     have g0:a≤s:=by omega
     have g1:s≤m:=by omega
     have g2:m≤((a+b) / 2+m-s):=by omega
     have g3:((a+b) / 2+m-s)≤b:=by omega
     have hc:s+(((a+b) / 2+m-s)-m)=((a+b) / 2):=by omega
     refine go 9 ?_;refine o_v rfl (OV.cast (u:=.int .i64 ((((a+b) / 2+m-s):Nat):Int)) (a1v rfl rfl ⟨by omega,by omega⟩) (congrArg (Value.int .i64) (by omega))) ?_;refine go 4 ?_;refine a7a (α:=List Evt) (Ix:=(fun k=>I)) (Lx:=(fun k=>[(0,.slice (some ⟨g,0,none⟩) N N),(1,.int .i64 ((a:Nat):Int)),(2,.int .i64 ((m:Nat):Int)),(3,.int .i64 ((b:Nat):Int)),(4,.func (.func f) #[] #[]),(18,.int .i64 ((((a+b) / 2):Nat):Int)),(20,.int .i64 ((s:Nat):Int)),(24,.int .i64 ((((a+b) / 2+m-s):Nat):Int))])) (Hx:=(fun k=>[.blk g 96 (a1O (k)).flatten])) (p:=(fun k=>Rot l k a s m ((a+b) / 2+m-s) b)) ?_ ?_
     ·refine go 6 ?_;refine sxb 181 rfl (fun h181 p181=>?_) (fun h181 p181=>?_)
      ·refine go 6 ?_;refine cb rfl (fun h185 p185=>?_) (fun h185 p185=>?_)
       ·refine go 7 ?_;refine a1u (d0y _ l N hN g s m ((a+b) / 2+m-s) f (by omega) (by omega) (by omega) (by omega)) rfl rfl (fun v191 s191 q191=>?_);obtain⟨rfl,k,rfl,hkl,hk⟩:=q191;refine go 2 ?_;exact a2T k (Rot.of g1 g2 (by omega) hkl hk hx) sb rfl rfl
       ·refine go 2 ?_;exact a2T l (Rot.id (by omega) g1 g2) sb rfl rfl
      ·refine go 6 ?_;refine a0P rfl ?_;refine go 2 ?_;exact a2T l (Rot.id (by omega) g1 g2) sb rfl rfl
     ·intro k hk;refine go 1 ?_;refine a7a (α:=List Evt) (Ix:=(fun k1=>I)) (Lx:=(fun k1=>[(0,.slice (some ⟨g,0,none⟩) N N),(1,.int .i64 ((a:Nat):Int)),(2,.int .i64 ((m:Nat):Int)),(3,.int .i64 ((b:Nat):Int)),(4,.func (.func f) #[] #[]),(18,.int .i64 ((((a+b) / 2):Nat):Int)),(20,.int .i64 ((s:Nat):Int)),(24,.int .i64 ((((a+b) / 2+m-s):Nat):Int))])) (Hx:=(fun k1=>[.blk g 96 (a1O (k1)).flatten])) (p:=(fun k1=>Seg k k1 a ((a+b) / 2))) ?_ ?_
      ·refine go 6 ?_;refine sxb 195 rfl (fun h195 p195=>?_) (fun h195 p195=>?_)
       ·refine go 6 ?_;refine cb rfl (fun h199 p199=>?_) (fun h199 p199=>?_)
        ·refine go 7 ?_;refine a1u (ih k a s ((a+b) / 2) (hk.len.trans hN) (by omega) (by omega) (by omega) (by have:=hk.len;omega) (hk.p1 m1 g1) ((hk.p2 m2 g1 g2 g3).sub (Nat.le_refl _) (by omega))) rfl rfl (fun v205 s205 q205=>?_);obtain⟨rfl,k1,rfl,hk1⟩:=q205;refine go 2 ?_;exact a2T k1 hk1 sb rfl rfl
        ·refine go 2 ?_;exact a2T k (Seg.refl' (hk.left m1 m2 g1 g2 g3 hc (by omega) g0)) sb rfl rfl
       ·refine go 6 ?_;refine a0P rfl ?_;refine go 2 ?_;exact a2T k (Seg.refl' (hk.left m1 m2 g1 g2 g3 hc (by omega) g0)) sb rfl rfl
      ·intro k1 hk1
       have hl1:k1.length=N:=hk1.len.trans (hk.len.trans hN)
       refine go 6 ?_;refine sxb 209 rfl (fun h209 p209=>?_) (fun h209 p209=>?_)
       ·refine go 6 ?_;refine cb rfl (fun h213 p213=>?_) (fun h213 p213=>?_)
        ·refine go 7 ?_;refine a1u (ih k1 ((a+b) / 2) ((a+b) / 2+m-s) b hl1 (by omega) (by omega) (by omega) (by omega) (hk1.keepD (Nat.le_refl _) ((hk.p3 m1 g0 g1 g2).sub (by omega) (Nat.le_refl _))) (hk1.keepD (by omega) (hk.p4 m2 g1 g2))) rfl rfl (fun v219 s219 q219=>?_);obtain⟨rfl,k2,rfl,hk2⟩:=q219;refine go 1 ?_;refine a4y rfl ?_;exact q_x ⟨rfl,k2,rfl,hk.done m1 m2 g0 g1 g2 g3 hb hc hx hy hk1 hk2⟩
        ·refine go 1 ?_;refine a4y rfl ?_;exact q_x ⟨rfl,k1,rfl,hk.done m1 m2 g0 g1 g2 g3 hb hc hx hy hk1 (Seg.refl' (hk1.keepD (Nat.le_refl _) (hk.right m1 m2 g0 g1 g2 hc (by omega) g3)))⟩
       ·refine go 6 ?_;refine a0P rfl ?_;refine go 1 ?_;refine a4y rfl ?_;exact q_x ⟨rfl,k1,rfl,hk.done m1 m2 g0 g1 g2 g3 hb hc hx hy hk1 (Seg.refl' (hk1.keepD (Nat.le_refl _) (hk.right m1 m2 g0 g1 g2 hc (by omega) g3)))⟩
theorem b7C (I:IMap) (N g:Nat) (f:FuncId) (hp:∀x y:Evt,FnV Tryz.prog f #[.agg (Day.ch x).toArray,.agg (Day.ch y).toArray] I (.int .i64 (b4H (Day.day x) (Day.day y)))) (hN0:N≤1000000) (W:Nat):∀(l:List Evt) (a m b:Nat),l.length=N→b-a≤W→a<m→m<b→b≤l.length→SrtD l a m→SrtD l m b→FnX Tryz.prog 317 #[.slice (some ⟨g,0,none⟩) N N,.int .i64 ((a:Nat):Int),.int .i64 ((m:Nat):Int),.int .i64 ((b:Nat):Int),.func (.func f) #[] #[]] I [.blk g 96 (a1O (l)).flatten] (fun u r=>u = .tuple #[]∧∃m,r = .blk g 96 (a1O (m)).flatten∧Seg l m a b):=by
 induction W using Nat.strongRecOn with
 |_ W ih=>exact fun l a m b hN hW ham hmb hb m1 m2=>c1N I N g f hp hN0 W (fun l' a' m' b' h1 h2 h3 h4 h5 h6 h7=>ih (b'-a') h2 l' a' m' b' h1 (Nat.le_refl _) h3 h4 h5 h6 h7) l a m b hN hW ham hmb hb m1 m2
theorem d0G (I:IMap) (N g:Nat) (f:FuncId) (hp:∀x y:Evt,FnV Tryz.prog f #[.agg (Day.ch x).toArray,.agg (Day.ch y).toArray] I (.int .i64 (b4H (Day.day x) (Day.day y)))) (hN0:N≤1000000) (l:List Evt) (hN:l.length=N) :
    FnX Tryz.prog 258 #[.slice (some ⟨g,0,none⟩) N N,.int .i64 ((N:Nat):Int),.func (.func f) #[] #[]] I [.blk g 96 (a1O (l)).flatten] (fun u r=>u = .tuple #[]∧∃m,r = .blk g 96 (a1O (m)).flatten∧Stb l m∧SrtD m 0 N):=by
 refine enter Tryz.func258 Tryz.call258 rfl Tryz.ntmps258 rfl (fun w0=>?_);refine go 14 ?_
 refine a1w (0) (l) (fun a m=>I)
  (fun a m=>[(0,.slice (some ⟨g,0,none⟩) N N),(1,.int .i64 ((N:Nat):Int)),(2,.func (.func f) #[] #[]),(6,.int .i64 20),(7,.int .i64 ((a:Nat):Int)),(8,.int .i64 ((a+20:Nat):Int))])
  (fun a m=>[.blk g 96 (a1O (m)).flatten])
  (fun a m=>a≤N∧Stb l m∧Pre m 20 a)
  (fun a m=>N-a) ⟨Nat.zero_le _,Stb.refl l,.zero⟩ rfl sb rfl ?_
 intro a m ⟨ha,hs,hP⟩
 have hmN:m.length=N:=hs.1.symm.trans hN
 refine go 8 ?_;refine cb rfl (fun h13 p13=>?_) (fun h13 p13=>?_)
 ·refine go 10 ?_;refine a1u (c0w _ m N hmN g a (a+20) f hp (by omega) (by omega) (by omega)) rfl rfl (fun v18 s18 q18=>?_);obtain⟨rfl,k18,rfl,h18⟩:=q18;refine go 11 ?_;refine o_v rfl (OV.cast (u:=.int .i64 ((a+20+20:Nat):Int)) (a2c rfl rfl ⟨by omega,by omega⟩) (congrArg (Value.int .i64) (by omega))) ?_;refine go 4 ?_;exact a0M (a+20) (k18) ⟨by omega,hs.trans h18.stb,hP.put h18⟩ (by omega) rfl sb rfl
 ·refine go 12 ?_;refine a1u (c0w _ m N hmN g a N f hp ha (by omega) (by omega)) rfl rfl (fun v27 s27 q27=>?_);obtain⟨rfl,m3,rfl,h27⟩:=q27;refine go 3 ?_
  refine a1w (20) (m3) (fun q m=>I)
   (fun q m=>[(0,.slice (some ⟨g,0,none⟩) N N),(1,.int .i64 ((N:Nat):Int)),(2,.func (.func f) #[] #[]),(6,.int .i64 ((q:Nat):Int))])
   (fun q m=>[.blk g 96 (a1O (m)).flatten])
   (fun q m=>1≤q∧Stb l m∧Blk m q N 0)
   (fun q m=>N-q) ⟨by omega,hs.trans h27.stb,hP.last h27 ha (by omega)⟩ rfl sb rfl ?_
  intro q m ⟨hq,hs,hB⟩
  have hmN:m.length=N:=hs.1.symm.trans hN
  refine go 8 ?_;refine cb rfl (fun h30 p30=>?_) (fun h30 p30=>?_)
  ·refine go 6 ?_;refine o_v rfl (OV.cast (u:=.int .i64 ((2 * q:Nat):Int)) (b4o rfl rfl ⟨by omega,by omega⟩) (congrArg (Value.int .i64) (by omega))) ?_;refine go 6 ?_
   refine a1w (0) (m) (fun a k=>I)
    (fun a k=>[(0,.slice (some ⟨g,0,none⟩) N N),(1,.int .i64 ((N:Nat):Int)),(2,.func (.func f) #[] #[]),(6,.int .i64 ((q:Nat):Int)),(7,.int .i64 ((a:Nat):Int)),(8,.int .i64 ((a+2 * q:Nat):Int))])
    (fun a k=>[.blk g 96 (a1O (k)).flatten])
    (fun a k=>a≤N∧Stb l k∧Pre k (2 * q) a∧Blk k q N a)
    (fun a k=>N-a) ⟨Nat.zero_le _,hs,.zero,hB⟩ rfl ⟨rfl,rfl,rfl,rfl,rfl,congrArg (fun z:Int=>some (Value.int .i64 z)) (by omega),trivial⟩ rfl ?_
   intro a k ⟨ha,hkS,hkP,hkB⟩
   have hkN:k.length=N:=hkS.1.symm.trans hN
   refine go 8 ?_;refine cb rfl (fun h35 p35=>?_) (fun h35 p35=>?_)
   ·obtain⟨t1,t2,t3⟩:=hkB.two (by omega) hq;refine go 9 ?_;refine o_v rfl (OV.cast (u:=.int .i64 ((a+q:Nat):Int)) (a2c rfl rfl ⟨by omega,by omega⟩) (congrArg (Value.int .i64) (by omega))) ?_;refine go 3 ?_;refine a1u (b7C _ N g f hp hN0 _ k a (a+q) (a+2 * q) hkN (Nat.le_refl _) (by omega) (by omega) (by omega) t1 t2) rfl rfl (fun v43 s43 q43=>?_);obtain⟨rfl,k43,rfl,h43⟩:=q43;refine go 11 ?_;refine o_v rfl (OV.cast (u:=.int .i64 ((2 * q:Nat):Int)) (b4o rfl rfl ⟨by omega,by omega⟩) (congrArg (Value.int .i64) (by omega))) ?_;refine o_v rfl (OV.cast (u:=.int .i64 ((a+2 * q+2 * q:Nat):Int)) (a2c rfl rfl ⟨by omega,by omega⟩) (congrArg (Value.int .i64) (by omega))) ?_;refine go 4 ?_;exact a0M (a+2 * q) (k43) ⟨by omega,hkS.trans h43.stb,hkP.put h43,t3.same fun z z1 z2=>h43.out z (.inr (by omega))⟩ (by omega) rfl sb rfl
   ·refine go 6 ?_;refine a7a (α:=List Evt) (Ix:=(fun k=>I)) (Lx:=(fun k=>[(0,.slice (some ⟨g,0,none⟩) N N),(1,.int .i64 ((N:Nat):Int)),(2,.func (.func f) #[] #[]),(6,.int .i64 ((q:Nat):Int))])) (Hx:=(fun k=>[.blk g 96 (a1O (k)).flatten])) (p:=(fun k=>Stb l k∧Blk k (2 * q) N 0)) ?_ ?_
    ·refine go 4 ?_;refine o_v rfl (OV.cast (u:=.int .i64 ((a+q:Nat):Int)) (a2c rfl rfl ⟨by omega,by omega⟩) (congrArg (Value.int .i64) (by omega))) ?_;refine go 10 ?_;refine cb rfl (fun h54 p54=>?_) (fun h54 p54=>?_)
     ·obtain⟨t1,t2⟩:=hkB.one (by omega);refine go 7 ?_;refine a1u (b7C _ N g f hp hN0 _ k a (a+q) N hkN (Nat.le_refl _) (by omega) (by omega) (by omega) t1 (t2 (by omega))) rfl rfl (fun v60 s60 q60=>?_);obtain⟨rfl,k60,rfl,h60⟩:=q60;refine go 2 ?_;exact a2T k60 ⟨hkS.trans h60.stb,hkP.last h60 ha (by omega)⟩ sb rfl rfl
     ·refine go 2 ?_;exact a2T k ⟨hkS,hkP.last (Seg.refl' (hkB.all (by omega))) ha (by omega)⟩ sb rfl rfl
    ·intro k ⟨hkS,hkB⟩;refine go 2 ?_;refine o_v rfl (OV.cast (u:=.int .i64 ((2 * q:Nat):Int)) (b4o rfl rfl ⟨by omega,by omega⟩) (congrArg (Value.int .i64) (by omega))) ?_;refine go 4 ?_;exact a0M (2 * q) (k) ⟨by omega,hkS,hkB⟩ (by omega) rfl sb rfl
  ·refine go 4 ?_;refine a4y rfl ?_;exact q_x ⟨rfl,m,rfl,hs,hB.all (by omega)⟩
theorem b8P (I:IMap) (N g:Nat) (f:FuncId) (hp:∀x y:Evt,FnV Tryz.prog f #[.agg (Day.ch x).toArray,.agg (Day.ch y).toArray] I (.int .i64 (b4H (Day.day x) (Day.day y)))) (hN0:N≤1000000) (l:List Evt) (hN:l.length=N) :
    FnX Tryz.prog 209 #[.slice (some ⟨g,0,none⟩) N N,.func (.func f) #[] #[]] I [.blk g 96 (a1O (l)).flatten] (fun u r=>u = .tuple #[]∧∃m,r = .blk g 96 (a1O (m)).flatten∧Stb l m∧SrtD m 0 N):=by
 refine enter Tryz.func209 Tryz.call209 rfl Tryz.ntmps209 rfl (fun w0=>?_);refine go 6 ?_;refine a1u (d0G _ N g f hp hN0 l hN) rfl rfl (fun v8 s8 q8=>?_);obtain⟨rfl,m8,rfl,h8⟩:=q8;refine go 1 ?_;refine a4y rfl ?_;exact q_x ⟨rfl,m8,rfl,h8⟩
theorem c8n (I:IMap) (v:Value) (l:List Evt) (hv:RdS I v l) (hl:l.length≤1000000) (f:FuncId) (hp:∀x y:Evt,FnV Tryz.prog f #[.agg (Day.ch x).toArray,.agg (Day.ch y).toArray] I (.int .i64 (b4H (Day.day x) (Day.day y)))) :
    FnI Tryz.prog 141 #[v,.func (.func f) #[] #[]] I (fun u J=>RdS J u (a1m l)):=by
 obtain⟨A,c,rfl,hA,hc,hm⟩:=hv;refine enter Tryz.func141 Tryz.call141 rfl Tryz.ntmps141 rfl (fun w0=>?_);refine go 10 ?_;refine a4H he he rfl rfl rfl (by omega) (by omega) rfl (fun g8=>?_);refine go 8 ?_;obtain⟨xss,hx,hcell⟩:=hA.pieces;obtain rfl:=b9R hx;refine a7u (a1O l) 0 he rfl rfl (by rw[a0D];simp) (Uk.rep (c:=[.int .i64 0,.int .i64 0,.string ⟨#[]⟩,.string ⟨#[]⟩,.string ⟨#[]⟩,.string ⟨#[]⟩,.string ⟨#[]⟩,.string ⟨#[]⟩,.int .i64 0,.int .i64 0,.int .i64 0,.int .i64 0,.int .i64 0,.int .i64 0]) rfl _) (a0s l) hx.one (fun _=>by rw[Nat.zero_mul]) (fun hp=>by rw[a0D]at hp;obtain⟨b,o,e,h⟩:=hcell hp;exact⟨b,o,e,fun w mm j u hu=>(h j u hu).at_ mm.con⟩) (by rw[a0D];simp) rfl ?_;refine a4N (yss:=a1O l) (by rw[a0D];simp) ?_;refine go 7 ?_;refine a1u (b8P _ l.length g8 f hp hl l rfl) rfl rfl (fun v14 s14 q14=>?_);obtain⟨rfl,m14,rfl,h14,s14⟩:=q14;refine go 9 ?_;refine a0x rfl rfl ?_
 have hml:m14.length=l.length:=h14.1.symm
 obtain rfl:=b7v h14 (SrtD.pw (by rw[hml];exact s14));refine c1M (m:=l.length) (a0s _) (by rw[a0D,hml]) (by unfold maxLen;omega) ?_;refine a0o (l:=a1m l) rfl hml.symm (a7e _).flat (fun J hJ R=>?_);exact q_i R
theorem d1v (I:IMap) (x y:Evt) :
    FnV Tryz.prog 142 #[.agg (Day.ch x).toArray,.agg (Day.ch y).toArray] I (.int .i64 (b4H (Day.day x) (Day.day y))):=by
 refine enter Tryz.func142 Tryz.call142 rfl Tryz.ntmps142 rfl (fun w0=>?_)
 show SX _ _ _ (b1J [.agg x.cells.toArray,.agg y.cells.toArray] 0) _ _
 refine go 3 ?_;refine a0B _ rfl rfl rfl (fun g2=>?_);refine go 1 ?_;refine a0B _ rfl rfl rfl (fun g3=>?_);refine go 10 ?_;refine a0a (b4J _ _ _) rfl rfl ?_;refine go 4 ?_;refine a0x rfl rfl ?_;exact q_v rfl
theorem d1w (I:IMap) (v:Value) (l:List Evt) (hv:RdS I v l) (hl:l.length≤1000000) :
    FnI Tryz.prog 90 #[v] I (fun u J=>RdS J u (a1m l)):=by
 refine enter Tryz.func90 Tryz.call90 rfl Tryz.ntmps90 rfl (fun w0=>?_);refine go 9 ?_;refine a0F (c8n _ v l hv hl 142 (fun x y=>d1v _ x y)) rfl rfl (fun v4 I4 j4 q4=>?_);refine go 4 ?_;refine a0x rfl rfl ?_;exact q_i q4
end Go.Proofs.YtdapmfkbpnjkmaaGreat
namespace Go.Proofs.YtdapmfkbpnjkmaaGreat
open Go Go.Sx
set_option linter.all false
set_option maxRecDepth 20000
set_option maxHeartbeats 4000000
instance T.ty_30:Has (tyK Tryz.prog 30) (false,1):=⟨by kernel_rfl⟩
instance T.ty_62:Has (tyK Tryz.prog 62) (false,1):=⟨by kernel_rfl⟩
instance T.zero_3:Has (a1Z Tryz.prog 3) [.int .i64 0]:=⟨by kernel_rfl⟩
instance T.zero_30:Has (a1Z Tryz.prog 30) [.int .i64 0]:=⟨by kernel_rfl⟩
theorem b0t (I:IMap) (v:Value) (l:List Evt) (hl:l.length≤1000000) (f:FuncId) (cs:List Value) (p:Evt→Bool) (hp:∀I2,ILe I I2→∀x:Evt,FnV Tryz.prog f ([Value.agg (Day.ch x).toArray]++cs).toArray I2 (.bool (p x))) :
    FnD Tryz.prog 87 #[v,.func (.func f) #[] cs.toArray] I (.row v 96 14 l.length (a1O l).flatten) (fun u J=>RdS J u (l.filter fun x=>!p x)):=by
 refine enter Tryz.func87 Tryz.call87 rfl Tryz.ntmps87 rfl (fun w0=>?_);refine go 10 ?_;refine b2l m0 rfl rfl ((a7e l).flat) (fun I2 hI2 hR=>b2b I2 _ l hR f cs p (fun x _ vs hx=>by cases hx;exact hp I2 hI2 x)) rfl rfl ?_;refine go 10 ?_;refine cb rfl (fun h12 p12=>?_) (fun h12 p12=>?_)
 ·refine go 8 ?_;refine a0x rfl rfl ?_
  have hall:l.filter (fun x=>!p x)=l:=by
    rw[List.filter_eq_self];intro x hx
    have:=a8T p l
    rw[show decide (0≤a6s p l)=false from by rw[p12];rfl]at this
    simpa using List.any_eq_false.1 this.symm x hx
  refine a0o (l:=l) rfl rfl (a7e l).flat (fun J hJ R=>?_);exact q_d (by rw[hall];exact R)
 ·obtain⟨i0,hi0,hx0,hp0,hn0⟩:∃(i:Nat) (h:i<l.length),a6s p l=(i:Int)∧p l[i]=true∧∀j x,j<i→l[j]? = some x→p x=false:=by
    rcases a5V p l with ⟨h1,_⟩|⟨i,hi,h1,h2⟩
    · exfalso;have:=p12;have : -1≤a6s p l:=c7g p l;omega
    · rw[List.find?_eq_some_iff_getElem]at h2
      obtain⟨h3,k,hk,h4,h5⟩:=h2;obtain⟨h6,h7⟩:=c3u h1 hi;exact⟨i,hi,h1,h6,h7⟩
  refine a8z (a0s l) (a0D l) (fun h0 _=>by omega) (fun g cap rest hv hR hcap hmax=>?_);subst hv
  have hcap1:l.length≤cap:=by omega
  refine go 6 ?_;refine o_v rfl (OV.cast (u:=.int .i64 ((i0+1:Nat):Int)) (a2c rfl rfl ⟨by omega,by omega⟩) (congrArg (Value.int .i64) (by rw[hx0];omega))) ?_;refine go 4 ?_
  refine a3B (i0) (i0+1) (l) (fun i j m=>I)
   (fun i j m=>[(0,.slice (some ⟨g,0,none⟩) l.length cap),(1,.func (.func f) #[] cs.toArray),(5,.int .i64 ((i:Nat):Int)),(6,.int .i64 ((j:Nat):Int))])
   (fun i j m=>[.blk g 96 (a1O m++rest).flatten])
   (fun i j m=>Del p l m i j)
   (fun i j m=>l.length-j) (Del.start hi0 hp0 hn0) rfl ⟨rfl,rfl,congrArg (fun z:Int=>some (Value.int .i64 z)) hx0,rfl,trivial⟩ rfl ?_
  intro i j m hD
  have hml:=hD.len
  have hij:=hD.le
  have hjl:=hD.hj
  refine go 9 ?_;refine cb rfl (fun h19 p19=>?_) (fun h19 p19=>?_)
  ·have hlt:j<l.length:=by omega
   have hjm:j<m.length:=by omega
   have hat:=hD.at_ hlt
   refine go 8 ?_;refine o_v rfl (a0n he rfl rfl rfl (j) (by omega) (by omega)) ?_;refine o_v rfl (a1S m0 ((a0s _).append hR) he rfl (j) (by omega) (b9S hjm)) ?_;refine go 1 ?_;refine a0h he rfl (fun g7=>?_);refine go 1 ?_;refine a0m _ he rfl rfl rfl rfl rfl rfl ?_;refine go 7 ?_;refine a0a (hp _ (ILe.refl _) _) rfl rfl ?_;refine go 3 ?_;refine cb rfl (fun h29 p29=>?_) (fun h29 p29=>?_)
   ·refine go 5 ?_;refine o_v rfl (a0n he rfl rfl rfl (i) (by omega) (by omega)) ?_;refine go 1 ?_;refine a0g ?_;refine a2b _ (i) ((a0s _).append hR) he rfl rfl rfl rfl rfl (by omega) (by simp[a0D];omega) ?_;refine go 4 ?_;refine o_v rfl (OV.cast (u:=.int .i64 ((i+1:Nat):Int)) (a2c rfl rfl ⟨by omega,by omega⟩) (congrArg (Value.int .i64) (by omega))) ?_;refine go 6 ?_;refine o_v rfl (OV.cast (u:=.int .i64 ((j+1:Nat):Int)) (a2c rfl rfl ⟨by omega,by omega⟩) (congrArg (Value.int .i64) (by omega))) ?_;refine go 3 ?_;refine a0g ?_;refine a0b ?_;exact a1X (i+1) (j+1) (m.set i l[j]) (hD.keep hlt (by simpa[hat]using p29)) (by omega) rfl sb (by rw[←b9T _ _ _ (by omega),hat])
   ·refine go 5 ?_;refine o_v rfl (OV.cast (u:=.int .i64 ((j+1:Nat):Int)) (a2c rfl rfl ⟨by omega,by omega⟩) (congrArg (Value.int .i64) (by omega))) ?_;refine go 3 ?_;refine a0b ?_;exact a1X (i) (j+1) (m) (hD.skip hlt (by simpa[hat]using p29)) (by omega) rfl sb rfl
  ·obtain rfl:j=l.length:=by omega
   have hfi:m.take i=l.filter fun x=>!p x:=by have:=hD.fst;rwa[List.take_length]at this
   refine go 9 ?_;refine o_v rfl (a0U he rfl rfl i rfl (by omega)) ?_;refine go 1 ?_;refine c0X i he he rfl rfl rfl rfl ((a0s _).append hR) (fun _=>a1V (k:=14) (by omega)) (by simp[a0D];omega) ?_;refine go 6 ?_;refine o_v rfl (a2E he rfl rfl i rfl (by omega)) ?_;refine go 4 ?_;refine a0x rfl rfl ?_
   have htk:(a1O m++rest).take i=a1O (l.filter fun x=>!p x):=by rw[List.take_append_of_le_length (by rw[a0D];omega),←hfi,a1O,a1O,List.map_take]
   have hll:(l.filter fun x=>!p x).length=i:=by rw[←hfi,List.length_take];omega
   rw[htk];refine a2L (m:=i) (cap:=cap) (a0s _) ((Uk.rep (c:=[.int .i64 0,.int .i64 0,.string ⟨#[]⟩,.string ⟨#[]⟩,.string ⟨#[]⟩,.string ⟨#[]⟩,.string ⟨#[]⟩,.string ⟨#[]⟩,.int .i64 0,.int .i64 0,.int .i64 0,.int .i64 0,.int .i64 0,.int .i64 0]) rfl _).append (Uk.drop ((a0s _).append hR) _)) (by rw[a0D,hll]) (by simp[a0D];omega) hmax ?_;refine a0o (l:=l.filter fun x=>!p x) rfl hll.symm (a7e _).flat (fun J hJ R=>?_);exact q_d R
end Go.Proofs.YtdapmfkbpnjkmaaGreat
namespace Go.Proofs.YtdapmfkbpnjkmaaGreat
open Go Go.Sx
set_option linter.all false
set_option maxRecDepth 20000
set_option maxHeartbeats 4000000
theorem b2v (I:IMap) (x:Ivl) :
    FnV Tryz.prog 231 #[.agg x.cells.toArray] I (.bool (c2p x)):=by
 refine enter Tryz.func231 Tryz.call231 rfl Tryz.ntmps231 rfl (fun w0=>?_);refine go 3 ?_;refine a0B _ rfl rfl rfl (fun g1=>?_);refine go 9 ?_;refine sxb 6 rfl (fun h6 p6=>?_) (fun h6 p6=>?_)
 ·refine go 7 ?_;refine sxb 13 rfl (fun h13 p13=>?_) (fun h13 p13=>?_)
  ·refine go 8 ?_;refine a0x rfl rfl ?_;exact q_v (congrArg Value.bool (by simp only[c2p,h6,h13,bS]))
  ·refine go 8 ?_;refine a0x rfl rfl ?_;exact q_v (congrArg Value.bool (by simp only[c2p,h6,h13,bS]))
 ·refine go 15 ?_;refine a0x rfl rfl ?_;exact q_v (congrArg Value.bool (by simp only[c2p,h6,bS]))
theorem c4l (I:IMap) (x:Use) :
    FnV Tryz.prog 168 #[.agg x.cells.toArray] I (.bool (c5J x)):=by
 refine enter Tryz.func168 Tryz.call168 rfl Tryz.ntmps168 rfl (fun w0=>?_);refine go 3 ?_;refine a0B _ rfl rfl rfl (fun g1=>?_);refine go 6 ?_;refine o_v rfl (a2o (x.km.cells) m0 he rfl rfl rfl) ?_;refine go 1 ?_;refine a0a (b2v _ x.km) rfl rfl ?_;refine go 1 ?_;refine sxb 6 rfl (fun h6 p6=>?_) (fun h6 p6=>?_)
 ·refine go 1 ?_;refine a0v (a0y rfl rfl h6 (a0l rfl (a2o (x.cycles.cells) m0 he rfl rfl rfl) ?_));refine go 1 ?_;refine a0y rfl rfl h6 (a0a (b2v _ x.cycles) rfl rfl ?_);refine go 2 ?_;refine sxb 11 rfl (fun h11 p11=>?_) (fun h11 p11=>?_)
  ·refine go 1 ?_;refine a0v (a0y rfl rfl h11 (a0l rfl (a2o (x.load.cells) m0 he rfl rfl rfl) ?_));refine go 1 ?_;refine a0y rfl rfl h11 (a0a (b2v _ x.load) rfl rfl ?_);refine go 5 ?_;refine a0x rfl rfl ?_;exact q_v (congrArg Value.bool (by simp only[c5J,h6,h11,bS]))
  ·refine go 8 ?_;refine a0x rfl rfl ?_;exact q_v (congrArg Value.bool (by simp only[c5J,h6,h11,bS]))
 ·refine go 13 ?_;refine a0x rfl rfl ?_;exact q_v (congrArg Value.bool (by simp only[c5J,h6,bS]))
theorem b1m (I:IMap) (e:Evt) (hs:SmE e) :
    FnV Tryz.prog 98 #[.agg e.cells.toArray] I (.bool (a1H e)):=by
 refine enter Tryz.func98 Tryz.call98 rfl Tryz.ntmps98 rfl (fun w0=>?_);refine go 3 ?_;refine a0B _ rfl rfl rfl (fun g1=>?_);refine go 5 ?_;refine a2z (I':=I) (L':=[(1,.pointer (some ⟨g1,0,none⟩)),(28,.bool (a7d e))]) (H':=[.blk g1 96 e.cells]) ?_ ?_
 ·refine go 5 ?_;refine sxb 8 rfl (fun h8 p8=>?_) (fun h8 p8=>?_)
  ·refine go 22 ?_;exact a0E ⟨rfl,(congrArg (fun b=>some (Value.bool b)) (by simp only[a7d,h8,bS])),trivial⟩ rfl rfl
  ·refine go 5 ?_;refine sxb 13 rfl (fun h13 p13=>?_) (fun h13 p13=>?_)
   ·refine go 17 ?_;exact a0E ⟨rfl,(congrArg (fun b=>some (Value.bool b)) (by simp only[a7d,h8,h13,bS])),trivial⟩ rfl rfl
   ·refine go 5 ?_;refine sxb 18 rfl (fun h18 p18=>?_) (fun h18 p18=>?_)
    ·refine go 12 ?_;exact a0E ⟨rfl,(congrArg (fun b=>some (Value.bool b)) (by simp only[a7d,h8,h13,h18,bS])),trivial⟩ rfl rfl
    ·refine go 5 ?_;refine sxb 23 rfl (fun h23 p23=>?_) (fun h23 p23=>?_)
     ·refine go 7 ?_;exact a0E ⟨rfl,(congrArg (fun b=>some (Value.bool b)) (by simp only[a7d,h8,h13,h18,h23,bS])),trivial⟩ rfl rfl
     ·refine go 3 ?_;refine a0y rfl rfl h23 (a0a (b3x _ _ hs.1) rfl rfl ?_);refine go 4 ?_;exact a0E ⟨rfl,(congrArg (fun b=>some (Value.bool b)) (by simp only[a7d,h8,h13,h18,h23,bS])),trivial⟩ rfl rfl
 ·refine cb rfl (fun h28 p28=>?_) (fun h28 p28=>?_)
  ·refine go 7 ?_;refine a0x rfl rfl ?_;exact q_v (congrArg Value.bool (by rw[←a8o];simp only[b0k,h28];rfl))
  ·refine go 11 ?_;refine a0l rfl (a0A (pl:=[(0,1),(1,1),(2,1),(3,1),(4,1),(5,1),(6,1),(7,1),(8,6)]) he he rfl rfl) ?_;refine go 1 ?_;refine a0h he rfl (fun g3=>?_);refine go 1 ?_;refine a0m _ he rfl rfl rfl rfl rfl rfl ?_;refine go 8 ?_;refine a2z (I':=I) (L':=[(1,.pointer (some ⟨g1,0,none⟩)),(3,.pointer (some ⟨g3,0,none⟩)),(4,.bool (a7W e))]) (H':=[.blk g3 96 (a7r e).cells,.blk g1 96 e.cells]) ?_ ?_
   ·refine go 13 ?_;refine cb rfl (fun h38 p38=>?_) (fun h38 p38=>?_)
    ·refine go 6 ?_;refine a3r he rfl rfl rfl rfl ?_;refine go 6 ?_;refine a0a (b3x _ _ hs.2.1) rfl rfl ?_;refine go 4 ?_;exact a0E ⟨rfl,rfl,(congrArg (fun b=>some (Value.bool b)) (by simp only[a7W,p28,p38,h28,h38,Int.reduceEq,reduceIte,if_true,if_false,decide_true,decide_false,bS])),trivial⟩ (by rw[a7r,if_pos p38];rfl) rfl
    ·refine go 6 ?_;refine cb rfl (fun h46 p46=>?_) (fun h46 p46=>?_)
     ·refine go 6 ?_;refine a3r he rfl rfl rfl rfl ?_;refine go 8 ?_;refine a3r he rfl rfl rfl rfl ?_;refine go 6 ?_;refine a0a (b3x _ _ hs.2.2.1) rfl rfl ?_;refine go 1 ?_;refine sxb 57 rfl (fun h57 p57=>?_) (fun h57 p57=>?_)
      ·refine go 3 ?_;refine a0y rfl rfl h57 (a0a (b3x _ _ hs.2.2.2.1) rfl rfl ?_);refine go 2 ?_;refine sxb 62 rfl (fun h62 p62=>?_) (fun h62 p62=>?_)
       ·refine go 10 ?_;exact a0E ⟨rfl,rfl,(congrArg (fun b=>some (Value.bool b)) (by simp only[a7W,p28,p38,p46,p57,p62,h28,h38,h46,h57,h62,Int.reduceEq,reduceIte,if_true,if_false,decide_true,decide_false,bS])),trivial⟩ (by rw[a7r,if_neg p38,if_pos p46];rfl) rfl
       ·refine go 10 ?_;exact a0E ⟨rfl,rfl,(congrArg (fun b=>some (Value.bool b)) (by simp only[a7W,p28,p38,p46,p57,p62,h28,h38,h46,h57,h62,Int.reduceEq,reduceIte,if_true,if_false,decide_true,decide_false,bS])),trivial⟩ (by rw[a7r,if_neg p38,if_pos p46];rfl) rfl
      ·refine go 15 ?_;exact a0E ⟨rfl,rfl,(congrArg (fun b=>some (Value.bool b)) (by simp only[a7W,p28,p38,p46,p57,h28,h38,h46,h57,Int.reduceEq,reduceIte,if_true,if_false,decide_true,decide_false,bS])),trivial⟩ (by rw[a7r,if_neg p38,if_pos p46];rfl) rfl
     ·refine go 6 ?_;refine cb rfl (fun h69 p69=>?_) (fun h69 p69=>?_)
      ·refine go 3 ?_;refine o_v rfl (a2o (e.use.cells) m1 he rfl rfl rfl) ?_;refine go 2 ?_;refine c9Y _ _ he rfl rfl rfl rfl rfl rfl rfl ?_;refine go 4 ?_;refine o_v rfl (a2o (e.use.cells) m1 he rfl rfl rfl) ?_;refine go 1 ?_;refine a0a (c4l _ e.use) rfl rfl ?_;refine go 4 ?_;exact a0E ⟨rfl,rfl,(congrArg (fun b=>some (Value.bool b)) (by simp only[a7W,p28,p38,p46,p69,h28,h38,h46,h69,Int.reduceEq,reduceIte,if_true,if_false,decide_true,decide_false,bS])),trivial⟩ (by rw[a7r,if_neg p38,if_neg p46,if_pos p69];rfl) rfl
      ·refine go 6 ?_;refine cb rfl (fun h77 p77=>?_) (fun h77 p77=>?_)
       ·refine go 6 ?_;refine a3r he rfl rfl rfl rfl ?_;refine go 8 ?_;refine a3r he rfl rfl rfl rfl ?_;refine go 6 ?_;refine a0a (b3x _ _ hs.2.2.2.2.1) rfl rfl ?_;refine go 1 ?_;refine sxb 88 rfl (fun h88 p88=>?_) (fun h88 p88=>?_)
        ·refine go 6 ?_;refine sxb 94 rfl (fun h94 p94=>?_) (fun h94 p94=>?_)
         ·refine go 9 ?_;exact a0E ⟨rfl,rfl,(congrArg (fun b=>some (Value.bool b)) (by simp only[a7W,p28,p38,p46,p69,p77,p88,p94,h28,h38,h46,h69,h77,h88,h94,Int.reduceEq,reduceIte,if_true,if_false,decide_true,decide_false,bS])),trivial⟩ (by rw[a7r,if_neg p38,if_neg p46,if_neg p69,if_pos p77];rfl) rfl
         ·refine go 9 ?_;exact a0E ⟨rfl,rfl,(congrArg (fun b=>some (Value.bool b)) (by simp only[a7W,p28,p38,p46,p69,p77,p88,p94,h28,h38,h46,h69,h77,h88,h94,Int.reduceEq,reduceIte,if_true,if_false,decide_true,decide_false,bS])),trivial⟩ (by rw[a7r,if_neg p38,if_neg p46,if_neg p69,if_pos p77];rfl) rfl
        ·refine go 15 ?_;exact a0E ⟨rfl,rfl,(congrArg (fun b=>some (Value.bool b)) (by simp only[a7W,p28,p38,p46,p69,p77,p88,h28,h38,h46,h69,h77,h88,Int.reduceEq,reduceIte,if_true,if_false,decide_true,decide_false,bS])),trivial⟩ (by rw[a7r,if_neg p38,if_neg p46,if_neg p69,if_pos p77];rfl) rfl
       ·refine go 3 ?_;exact a0E ⟨rfl,rfl,(congrArg (fun b=>some (Value.bool b)) (by simp only[a7W,p28,p38,p46,p69,p77,h28,h38,h46,h69,h77,Int.reduceEq,reduceIte,if_true,if_false,decide_true,decide_false,bS])),trivial⟩ (by rw[a7r,if_neg p38,if_neg p46,if_neg p69,if_neg p77];rfl) rfl
   ·refine go 4 ?_;refine sxb 101 rfl (fun h101 p101=>?_) (fun h101 p101=>?_)
    ·refine go 2 ?_;refine a0v (a0y rfl rfl h101 (a0l rfl (a3Q T.eqg_96 (b1S (a7r e) e) rfl rfl) ?_));refine go 5 ?_;refine a0x rfl rfl ?_;exact q_v (congrArg Value.bool (by rw[←a8o];simp only[b0k,h28,h101,bS]))
    ·refine go 8 ?_;refine a0x rfl rfl ?_;exact q_v (congrArg Value.bool (by rw[←a8o];simp only[b0k,h28,h101,bS]))
end Go.Proofs.YtdapmfkbpnjkmaaGreat
set_option linter.all false
namespace Go.Sx
open Go
structure Rep where
 options:List Evt
 doubtful:Bool
 deriving DecidableEq
def Rep.cells (r:Rep) (s:Value):List Value:=[s,.bool r.doubtful]
instance:Enc Rep where
 k:=2
 rd I vs x:=∃s,vs=x.cells s∧RdS I s x.options
 len h:=by obtain⟨ks,rfl,_⟩:=h;rfl
 mono hI h:=by obtain⟨ks,rfl,h⟩:=h;exact⟨ks,rfl,h.le hI⟩
 one h:=by obtain⟨ks,rfl,h⟩:=h;obtain⟨A,c,rfl,_⟩:=h;rfl
instance:Enc UInt8 where
 k:=1
 rd _ vs x:=vs=[.int .u8 x.toNat]
 len h:=by rw[h];rfl
 mono _ h:=h
 one h:=by rw[h];rfl
structure Pkd where
 e:Evt
 rep:Int
 lo:0≤e.day
 hi:e.day≤40000
def Pkd.cells (p:Pkd):List Value:=p.e.cells++[ci p.rep]
instance:Enc Pkd where
 k:=15
 rd _ vs x:=vs=x.cells
 len h:=by rw[h];rfl
 mono _ h:=h
 one h:=by rw[h];rfl
instance:Day Pkd:=⟨fun p=>p.e.day,Pkd.cells,15,fun _=>rfl⟩
def a4I (pre:List Evt) (e:Evt):Bool:=!(hit id pre e || !a1H e)
def a0t (r:Rep):Bool:=!(decide (((r.options.length:Nat):Int)=0)||decide ((4:Int)<(r.options.length:Nat)))&&a3A a4I r.options r.options.length
def chs (r:Rep):Int:=if a0t r=false then 0 else if r.doubtful=true then ((r.options.length:Nat):Int)+1 else ((r.options.length:Nat):Int)
theorem a3b {r:Rep} (h:a0t r=true):∀e∈r.options,a1H e=true:=by
 intro e he
 simp only[a0t,Bool.and_eq_true]at h
 obtain⟨pre,h1⟩:=a4S h.2 he
 simp only[a4I,Bool.not_eq_true',Bool.or_eq_false_iff,Bool.not_eq_false']at h1
 exact h1.2
theorem b1z {e:Evt} (h:a1H e=true):0≤e.day∧e.day≤40000:=by
 simp only[a1H,Bool.and_eq_true,Bool.not_eq_true']at h
 have h1:=h.1.1.1
 simp only[a8E,Bool.or_eq_false_iff,decide_eq_false_iff_not]at h1
 omega
def at2 {β:Type} (f:Rep→Int→β) (l:List Rep) (ch:List Int) (i:Nat):Option β:=match l[i]?,ch[i]? with|some r,some k=>some (f r k)|_,_=>none
theorem a2H {β:Type} {f:Rep→Int→β} {l:List Rep} {ch:List Int} {i:Nat} (h1:i<l.length) (h2:i<ch.length):at2 f l ch i=some (f l[i] ch[i]):=by
 simp[at2,h1,h2]
def a7N (f:Rep→Int→Bool) (l:List Rep) (ch:List Int) (n:Nat):Bool:=(List.range n).all fun i=>(at2 f l ch i).getD true
theorem a7O {f:Rep→Int→Bool} {l:List Rep} {ch:List Int} {i:Nat} (h:a7N f l ch i=true) (h1:i<l.length) (h2:i<ch.length) (hf:f l[i] ch[i]=true):a7N f l ch (i+1)=true:=
 a6V h (by simp[a2H h1 h2,hf])
theorem b2M {f:Rep→Int→Bool} {l:List Rep} {ch:List Int} {i n:Nat} (hn:i<n) (h1:i<l.length) (h2:i<ch.length) (hf:f l[i] ch[i]=false):a7N f l ch n=false:=
 a9l (p:=fun i=>(at2 f l ch i).getD true) hn (by simp[a2H h1 h2,hf])
theorem b5P {f:Rep→Int→Bool} {l:List Rep} {ch:List Int} {n i:Nat} (h:a7N f l ch n=true) (hi:i<n) (h1:i<l.length) (h2:i<ch.length):f l[i] ch[i]=true:=by
 rw[a7N,List.all_eq_true]at h
 have:=h i (List.mem_range.2 hi)
 simpa[a2H h1 h2]using this
def a8s (least:Int) (r:Rep) (k:Int):Bool:=!((decide (chs r=0)||decide (k<least))||decide (chs r≤k))
def a1T (c:List Kind) (l:List Rep) (ch:List Int) (least:Int):Bool:=!(!a0Y c || !decide (((ch.length:Nat):Int)=(l.length:Nat)))&&a7N (a8s least) l ch l.length
def a4b (day:Int) (r:Rep) (k:Int):Option Evt:=if 0≤k then (match r.options[k.toNat]? with|some e=>if e.day<day then some e else none|none=>none) else none
def pkd (day:Int) (l:List Rep) (ch:List Int) (i:Nat):Option Pkd:=match (at2 (a4b day) l ch i).join with
 |some e=>if h:0≤e.day∧e.day≤40000 then some ⟨e,i,h.1,h.2⟩ else none
 |none=>none
def a3k (day:Int) (l:List Rep) (ch:List Int) (n:Nat):List Pkd:=(List.range n).filterMap (pkd day l ch)
theorem a6a (day:Int) (l:List Rep) (ch:List Int) (i:Nat):a3k day l ch (i+1)=a3k day l ch i++(pkd day l ch i).toList:=by
 rw[a3k,List.range_succ,List.filterMap_append,a3k]
 congr 1
def a3m (c:List Kind):List Part→List Pkd→Int×Int
 |_,[]=>(-1,0)
 |st,p::r=>if (a0p c st p.e).2=0 then a3m c (a0p c st p.e).1 r else (p.rep,(a0p c st p.e).2)
def a4E (c:List Kind) (l:List Rep) (ch:List Int) (day:Int):Int×Int:=a3m c [] (a1m (a3k day l ch l.length))
def a8u (c:List Kind) (l:List Rep) (ch:List Int):Int×Int:=if a1T c l ch 0=false then (-1,1) else a4E c l ch 40001
def isF (c:List Kind) (l:List Rep) (ch:List Int):Bool:=decide ((a8u c l ch).2=0)
def a1D (l:List Rep) (ch:List Int) (n:Nat):List Int:=(List.range n).flatMap fun i=>(at2 (fun r k=>if k<0 then r.options.map Evt.day else []) l ch i).getD []
def a5o (l:List Int):Int:=l.foldl (fun a d=>if d<a then d else a) 40001
def a7g (c:List Kind) (l:List Rep) (ch:List Int):Bool:=if a1T c l ch (-1)=false then false else !decide ((a4E c l ch (a5o (a1D l ch l.length))).2=0)
end Go.Sx
set_option linter.all false
namespace Go.Sx
open Go
section
variable {α β:Type} [Day α] [Day β]
theorem b6s (f:α→β) (hf:∀x,Day.day (f x)=Day.day x) (e:α):∀l:List α,(a8I e l).map f=a8I (f e) (l.map f)
 | []=>rfl
 |x::r=>by
  simp only[a8I,List.map_cons,hf]
  split
  ·rfl
  ·rw[List.map_cons,b6s f hf e r]
theorem b4g (f:α→β) (hf:∀x,Day.day (f x)=Day.day x):∀l:List α,(a1m l).map f=a1m (l.map f)
 | []=>rfl
 |x::r=>by
  show (a8I x (a1m r)).map f=a8I (f x) (a1m (r.map f))
  rw[b6s f hf,b4g f hf r]
theorem b8l {e:α} {l:List α} (h:∀x∈l,Day.day e≤Day.day x):a8I e l=e::l:=by
 cases l with
 |nil=>rfl
 |cons x r=>simp only[a8I];rw[if_pos (h x (by simp))]
theorem b3l (p:α→Bool) (e:α):∀{l:List α},b4w l→(a8I e l).filter p=if p e=true then a8I e (l.filter p) else l.filter p
 | [],_=>by by_cases h:p e=true<;>simp[a8I,h]
 |x::r,hs=>by
  have hs':=List.pairwise_cons.1 hs
  simp only[a8I]
  by_cases hd:Day.day e≤Day.day x
  ·rw[if_pos hd,List.filter_cons]
   by_cases h:p e=true
   ·rw[if_pos h,if_pos h,b8l];intro y hy
    rcases List.mem_cons.1 (List.mem_filter.1 hy).1 with rfl|hy
    ·exact hd
    ·exact Int.le_trans hd (hs'.1 y hy)
   ·rw[if_neg h,if_neg h]
  ·rw[if_neg hd,List.filter_cons,b3l p e hs'.2,List.filter_cons]
   by_cases h:p e=true
   ·rw[if_pos h,if_pos h]
    by_cases hx:p x=true
    ·rw[if_pos hx,if_pos hx];simp only[a8I];rw[if_neg hd]
    ·rw[if_neg hx,if_neg hx]
   ·rw[if_neg h,if_neg h]
theorem a5v (p:α→Bool):∀l:List α,(a1m l).filter p=a1m (l.filter p)
 | []=>rfl
 |x::r=>by
  show (a8I x (a1m r)).filter p=_
  rw[b3l p x (a4M r),a5v p r,List.filter_cons]
  split<;>rfl
end
def a1F (c:List Kind):List Part→List Evt→Option (List Part)
 |st,[]=>some st
 |st,e::r=>if (a0p c st e).2=0 then a1F c (a0p c st e).1 r else none
theorem b7r (c:List Kind):∀(a b:List Evt) (st:List Part),a1F c st (a++b)=(a1F c st a).bind fun s=>a1F c s b
 | [],_,_=>rfl
 |e::r,b,st=>by
  simp only[List.cons_append,a1F]
  split
  ·exact b7r c r b _
  ·rfl
theorem a9C (c:List Kind):∀(l:List Pkd) (st:List Part),decide ((a3m c st l).2=0)=(a1F c st (l.map Pkd.e)).isSome
 | [],_=>rfl
 |p::r,st=>by
  simp only[List.map_cons,a1F,a3m]
  split
  ·exact a9C c r _
  ·rename_i h;simp[h]
theorem b0N (c:List Kind):∀(a b:List Pkd) (st:List Part),a3m c st (a++b)=match a1F c st (a.map Pkd.e) with|some s=>a3m c s b|none=>a3m c st a
 | [],_,_=>rfl
 |p::r,b,st=>by
  simp only[List.cons_append,List.map_cons,a1F,a3m]
  split
  ·rw[b0N c r b]
  ·rfl
end Go.Sx
set_option linter.all false
namespace Go.Sx
open Go
structure Rst (k:Nat) where
 l:List (List Value)
 uk:Uk k l
theorem a0z (l:List Pkd):Uk 15 (a1O l):=b9U l
theorem b8b {I:IMap} (l:List Pkd):FlatC I (a1O l) l:=by
 induction l with
 |nil=>exact .nil
 |cons e l ih=>exact .cons rfl ih
theorem a0Q {l:List Pkd} {rest:List (List Value)} {i:Nat} (h:i<l.length):(a1O l++rest)[i]? = some (Day.ch l[i]):=by
 rw[List.getElem?_append_left (by rw[a0D];exact h)];exact a1N h
section
variable {α:Type} [Day α]
theorem a7f (l:List α) (rest:List (List Value)) (i:Nat) (h:i<l.length) (e:α):(a1O l++rest).set i (Day.ch e)=a1O (l.set i e)++rest:=by
 rw[List.set_append_left _ _ (by rw[a0D];exact h),a6i]
theorem a3X {l:List α} {rest:List (List Value)} {i j:Nat} (hi:i<l.length) (hj:j<l.length):((a1O l++rest).set i (Day.ch l[j])).set j (Day.ch l[i])=a1O (swp l i j)++rest:=by
 rw[a7f _ _ _ hi,a7f _ _ _ (by rw[List.length_set];exact hj),b1u hi hj]
theorem a3u {l:List α} {rest:List (List Value)} {i j:Nat} (hi:i<l.length) (hj:j<l.length) (hij:i≠j):((a1O l++rest).set j (Day.ch l[i])).set i (Day.ch l[j])=a1O (swp l i j)++rest:=by
 rw[a7f _ _ _ hj,a7f _ _ _ (by rw[List.length_set];exact hi),b1u hi hj,List.set_comm _ _ hij.symm]
end
theorem c2Y {I:IMap} {xss:List (List Value)} {l:List Pkd} (h:FlatC I xss l):xss=a1O l:=by
 induction h with
 |nil=>rfl
 |cons h1 _ ih=>rw[ih];simp only[a1O,List.map_cons];rw[show _=_ from h1];rfl
theorem a7G {a b:Int}:a-b<0↔a<b:=by omega
theorem b4N {l:List Pkd} {i j:Nat} {hi:i<l.length} {hj:j<l.length} (h:Day.day l[i]-Day.day l[j]<0):a0C l i<a0C l j:=by
 rw[a7G]at h;rw[a1z hi,a1z hj];exact h
theorem b4M {l:List Pkd} {i j:Nat} {hi:i<l.length} {hj:j<l.length} (h:¬Day.day l[i]-Day.day l[j]<0):a0C l j≤a0C l i:=by
 rw[a7G]at h;rw[a1z hi,a1z hj];omega
section
variable {P:Program} {ρ:Option Nat} {n:Sz} {E:Ent} {I I':IMap} {L:LL} {H:List Res} {Q:Exit→Act→World→Prop} {ops:Array Oper} {K:Act→World→Prop} {w0:World}
variable {d ty:Nat} {pos:String} {af:Array Edge} {fo:Operand} {as_:List Operand} {ats:Array TypeId} {f:FuncId} {args:List Value} {r r':Res} {X:List Nat}
def FnG (P:Program) (f:FuncId) (args:Array Value) (I:IMap) (r:Res) (p:Value→IMap→Res→Prop):Prop:=FnH P f args I [r] fun u I' H'=>∃r',H'=[r']∧p u I' r'
theorem a8a {p:Value→IMap→Res→Prop} (hc:FnG P f args.toArray I r p) (h:a1P L fo as_=some (f,args)) (hd:Nat.blt d n.sz=true) (k:∀v I' r',ILe I I'→p v I' r'→SX n E I' ((d,v)::L) (r'::H) K) :
  SX n E I L (r::H) (one P ops Q ⟨some d,.call { callee:=.value fo,args:=as_.toArray,argTypes:=ats },ty,pos,af,none⟩ K):=
 a3M (Hc:=[r]) (H0:=H) hc h hd fun u I' H' hI hp=>by obtain⟨r',rfl,h1⟩:=hp;exact k u I' r' hI h1
theorem q_g {v:Value} {p:Value→IMap→Res→Prop} (h:p v I r):SX n E I L [r] fun _ w=>a8L E (fun u' I' H'=>∃r',H'=[r']∧p u' I' r') (.returned v) w:=a4Y (fun _ m=>m) ⟨r,rfl,h⟩
theorem FnX.of_V {args:Array Value} {v:Value} {t k:Nat} (h:FnV P f args I v):FnX P f args I [] (fun u r=>u=v∧r = .row (.slice none 0 0) t k 0 []):=
 ⟨fun w m=>(h.go w m).mono fun _ _ ⟨u,I',H',he,hm,hq⟩=>by
  obtain⟨rfl,rfl,rfl⟩:=hq
  exact⟨_,_,_,he,hm.nilrow t k,rfl,_,rfl,rfl,rfl⟩⟩
theorem FnX.back {args:Array Value} {g e k m cap:Nat} {xss yss rest:List (List Value)} {p:Value→Res→Prop} (hU:Uk k yss) (hR:Uk k rest) (hm:yss.length=m) (hc:m+rest.length=cap) (hl:cap≤maxLen)
  (h:FnX P f args I [.blk g e (xss++rest).flatten] (fun u r=>p u (.row (.slice (some ⟨g,0,none⟩) m cap) e k m yss.flatten)∧r = .blk g e (yss++rest).flatten)):FnX P f args I [.blk g e (xss++rest).flatten] p:=
 ⟨fun w m'=>(h.go w m').mono fun _ w' ⟨u,I',H',he,hm',hq⟩=>by
  obtain⟨rfl,r',rfl,hp,rfl⟩:=hq;refine⟨_,_,_,he,?_,rfl,_,rfl,hp⟩
  have hb:w'.heap[g]? = some (.cells (yss++rest).flatten.toArray e (0,0)):=hm'.blk
  exact hm'.step rfl ⟨rfl,Nat.le_refl _⟩ rfl (Nat.le_refl _) (fun _ _ _=>rfl) (IsRow.shut hb hU hR hm hc hl) (fun g' hg'=>.inl hg')⟩
theorem FnX.of_rowV {args:Value→List Value} {p:Value→Res→Prop} {v:Value} {e k m:Nat} {xss:List (List Value)} (hU:Uk k xss) (hm:xss.length=m)
  (h0:m=0→v = .slice none 0 0→FnX P f (args (.slice none 0 0)).toArray I [] p)
  (h1:∀g cap rest,v = .slice (some ⟨g,0,none⟩) m cap→Uk k rest→m+rest.length=cap→cap≤maxLen→FnX P f (args (.slice (some ⟨g,0,none⟩) m cap)).toArray I [.blk g e (xss++rest).flatten] p):FnX P f (args v).toArray I [.row v e k m xss.flatten] p:=by
 refine⟨fun w mm=>?_⟩
 have hr:IsRow (b3v w) v e k m xss.flatten:=mm.holds (.row v e k m xss.flatten) (List.mem_cons_self ..)
 rcases hr.open_ hU hm with ⟨h2,h3⟩|⟨g,cap,rest,h2,h3,h4,h5,h6⟩
 ·subst h3;exact (h0 h2 rfl).go w mm.drop
 ·subst h2;exact (h1 g cap rest rfl h3 h4 h5).go w (mm.step rfl ⟨rfl,Nat.le_refl _⟩ rfl (Nat.le_refl _) (fun _ _ _=>rfl) h6 (fun g' hg'=>.inl hg'))
end
theorem c3Z (day:Int) (l:List Rep) (ch:List Int) (i:Nat):(a3k day l ch i).length≤i:=by
 unfold a3k;exact Nat.le_trans (List.length_filterMap_le _ _) (by simp)
section
variable {day:Int} {l:List Rep} {ch:List Int} {i:Nat} {out:List Pkd}
theorem c7M (h1:i<l.length) (h2:i<ch.length) (hw:a3k day l ch i=out) (h:a4b day l[i] ch[i]=none):a3k day l ch (i+1)=out:=by
 rw[a6a,hw,pkd,a2H h1 h2,h];simp
theorem d0e (h1:i<l.length) (h2:i<ch.length) (hw:a3k day l ch i=out) (h:¬0≤ch[i]):a3k day l ch (i+1)=out:=c7M h1 h2 hw (if_neg h)
theorem d0d (h1:i<l.length) (h2:i<ch.length) (hw:a3k day l ch i=out) (h:¬ch[i]<(l[i].options.length:Nat)):a3k day l ch (i+1)=out:=c7M h1 h2 hw (by
 unfold a4b
 split
 ·rw[List.getElem?_eq_none (by omega)]
 ·rfl)
theorem c7L (h1:i<l.length) (h2:i<ch.length) (hw:a3k day l ch i=out) (hk:ch[i].toNat<l[i].options.length) (h:¬l[i].options[ch[i].toNat].day<day):a3k day l ch (i+1)=out:=c7M h1 h2 hw (by
 unfold a4b
 split
 ·simp only[List.getElem?_eq_getElem hk];rw[if_neg h]
 ·rfl)
theorem d0f (h1:i<l.length) (h2:i<ch.length) (hw:a3k day l ch i=out) (h0:0≤ch[i]) (hk:ch[i].toNat<l[i].options.length) (h:l[i].options[ch[i].toNat].day<day) (hv:0≤l[i].options[ch[i].toNat].day∧l[i].options[ch[i].toNat].day≤40000) :
  a3k day l ch (i+1)=out++[⟨l[i].options[ch[i].toNat],i,hv.1,hv.2⟩]:=by
 have ho:a4b day l[i] ch[i]=some l[i].options[ch[i].toNat]:=by
  unfold a4b;rw[if_pos h0]
  simp only[List.getElem?_eq_getElem hk];rw[if_pos h]
 rw[a6a,hw,pkd,a2H h1 h2,ho]
 simp[hv]
end
theorem a9D {c:List Kind} {st:List Part} {l:List Pkd} {i:Nat} (hi:i<l.length):a3m c st (l.drop i)=if (a0p c st l[i].e).2=0 then a3m c (a0p c st l[i].e).1 (l.drop (i+1)) else (l[i].rep,(a0p c st l[i].e).2):=by
 rw[List.drop_eq_getElem_cons hi];rfl
theorem b3G (l:List Rep) (ch:List Int) (i:Nat):a1D l ch (i+1)=a1D l ch i++((at2 (fun r k=>if k<0 then r.options.map Evt.day else []) l ch i).getD []):=by
 rw[a1D,List.range_succ,List.flatMap_append,a1D];simp
def a5r (l:List Rep) (ch:List Int) (i j:Nat):List Int:=a1D l ch i++((at2 (fun r k=>if k<0 then (r.options.take j).map Evt.day else []) l ch i).getD [])
theorem b5q {l:List Rep} {ch:List Int} {i:Nat}:a5r l ch i 0=a1D l ch i:=by
 unfold a5r at2
 split
 ·simp
 ·simp
theorem b5p {l:List Rep} {ch:List Int} {i j:Nat} (h1:i<l.length) (h2:i<ch.length) (h:¬ch[i]<0) (j':Nat):a5r l ch i j=a5r l ch i j':=by
 unfold a5r;rw[a2H h1 h2,a2H h1 h2];simp[h]
theorem a9S {l:List Rep} {ch:List Int} {i j:Nat} (h1:i<l.length) (h2:i<ch.length) (h:ch[i]<0) (hj:j<l[i].options.length):a5r l ch i (j+1)=a5r l ch i j++[l[i].options[j].day]:=by
 unfold a5r;rw[a2H h1 h2,a2H h1 h2];simp only[if_pos h,Option.getD_some];rw[←a0q hj,List.map_append,List.append_assoc];rfl
theorem b1d {l:List Rep} {ch:List Int} {i:Nat} (h1:i<l.length) (h2:i<ch.length):a5r l ch i l[i].options.length=a1D l ch (i+1):=by
 rw[b3G,a5r,a2H h1 h2,a2H h1 h2];simp[List.take_length]
theorem c3S {l:List Rep} {ch:List Int} {n i:Nat} (h:i≤n):a1D l ch i <+: a1D l ch n:=by
  induction n with
  | zero => obtain rfl : i = 0 := by omega
            exact List.prefix_rfl
  |succ n ih=>
    rcases Nat.lt_or_ge n i with hi|hi
    · obtain rfl:i=n+1:=by omega
      exact List.prefix_rfl
    · exact (ih hi).trans (by rw[b3G];exact List.prefix_append _ _)
theorem b8A {l:List Rep} {ch:List Int} {i j:Nat} (h1:i<l.length) (h2:i<ch.length) (h:ch[i]<0) (hj:j<l[i].options.length):a5r l ch i j++[l[i].options[j].day] <+: a1D l ch l.length:=by
 rw[←a9S h1 h2 h hj];refine List.IsPrefix.trans ?_ (c3S (i:=i+1) (by omega));rw[←b1d h1 h2];unfold a5r;rw[a2H h1 h2,a2H h1 h2]
 simp only[if_pos h,Option.getD_some]
 refine (List.prefix_append_right_inj _).2 ?_;rw[List.take_length,List.map_take];exact List.take_prefix _ _
theorem a2Y {r:Rep} (h:a0t r=true):1≤r.options.length∧r.options.length≤4:=by
 simp only[a0t,Bool.and_eq_true,Bool.not_eq_true',Bool.or_eq_false_iff,decide_eq_false_iff_not]at h
 omega
theorem c4a {day:Int} {l:List Rep} {ch:List Int} {n:Nat} {p:Pkd} (h:p∈a3k day l ch n):∃r∈l,p.e∈r.options:=by
 rw[a3k,List.mem_filterMap]at h
 obtain⟨i,_,hi⟩:=h;unfold pkd at2 at hi
 split at hi
 ·rename_i e he
  split at hi
  ·cases hi
   split at he
   ·rename_i r k h1 h2
    refine⟨r,List.mem_of_getElem? h1,?_⟩
    simp only[Option.join_some,a4b]at he
    split at he
    ·split at he
     ·rename_i e' h3
      split at he
      ·cases he;exact List.mem_of_getElem? h3
      ·cases he
     ·cases he
    ·cases he
   ·simp at he
  ·cases hi
 ·cases hi
theorem a2B {c:List Kind} {l:List Rep} {ch:List Int} {n:Int} (h:a1T c l ch n=true):ch.length=l.length∧∀r∈l,a0t r=true:=by
 simp only[a1T,Bool.and_eq_true,Bool.not_eq_true',Bool.or_eq_false_iff,Bool.not_eq_false',decide_eq_true_eq]at h
 have hlc:ch.length=l.length:=by omega
 refine⟨hlc,fun r hr=>?_⟩;obtain⟨i,hi,rfl⟩:=List.getElem_of_mem hr
 have:=b5P h.2 hi hi (by omega)
 simp only[a8s,Bool.not_eq_true',Bool.or_eq_false_iff,decide_eq_false_iff_not]at this
 cases hv:a0t l[i]with
 |true=>rfl
 |false=>exact absurd (by simp[chs,hv]) this.1.1
theorem b8r (l:List Int) (d:Int):a5o (l++[d])=if d<a5o l then d else a5o l:=by
 rw[a5o,List.foldl_append];rfl
def d1b (e:Evt):Value:=.agg e.cells.toArray
end Go.Sx
set_option linter.all false
namespace Go.Sx
open Go
def c8L (P:Program):Nat→TypeId→Value→Bool
 |0,_,_=>false
 |d+1,t,x=>match P.underlying t with
  |some .bool|some (.int _)|some .string=>true
  |some (.struct fs)=>match x with
   |.agg xs=>fs.toList.all fun f=>match b3O P f.type xs.toList f.offset with|some v=>c8L P d f.type v|none=>false
   |_=>false
  |_=>false
theorem b5Y {P:Program} {b:Bool}:∀(d:Nat) (t:TypeId) (v:Value),c8L P d t v=true→∀(n:Nat),d≤n→∀w:World,(Instr.checkKey b n t v).run P w = .ok () w
 |0,_,_,h,_,_,_=>by simp[c8L]at h
 |d+1,t,v,h,n,hn,w=>by
  obtain⟨n,rfl⟩:∃q,n=q+1:=⟨n-1,by omega⟩;rw[c8L]at h
  rw[Instr.checkKey]
  split at h
  ·rename_i hu;simp[run_underlying hu]
  ·rename_i hu;simp[run_underlying hu]
  ·rename_i hu;simp[run_underlying hu]
  ·rename_i fs hu
   split at h
   ·rename_i xs
    simp only[Sem.run_bind,run_underlying hu,Result.andThen_ok]
    rw[←Array.forIn_toList]
    have key:∀l:List Field,(∀f∈l,(match b3O P f.type xs.toList f.offset with|some v=>c8L P d f.type v|none=>false)=true)→∀w:World,
      (forIn l PUnit.unit fun f (_:PUnit)=>do
       if f.name ≠ "_" then do
        let __do_lift ←part f.type xs f.offset
        Instr.checkKey b n f.type __do_lift
        pure PUnit.unit
        pure (ForInStep.yield PUnit.unit)
       else do
        pure PUnit.unit
        pure (ForInStep.yield PUnit.unit):Sem PUnit).run P w = .ok () w:=by
     intro l
     induction l with
     |nil=>intro _ w;simp
     |cons f l ih=>
      intro hl w
      have h1:=hl f (by simp)
      split at h1
      ·rename_i v hv
       have e1:=a5Z hv w
       have e2:=b5Y (b:=b) d f.type v h1 n (by omega) w
       have e3:=ih (fun g hg=>hl g (by simp[hg])) w
       rw[List.forIn_cons]
       by_cases hf : f.name ≠ "_"
       ·simp only[if_pos hf,Sem.run_bind,e1,Result.andThen_ok,e2,Sem.run_pure]
        exact e3
       ·simp only[if_neg hf,Sem.run_bind,Result.andThen_ok,Sem.run_pure]
        exact e3
      ·cases h1
    have:=key fs.toList (by rw[List.all_eq_true]at h;exact h) w
    rw[this]
    simp
   ·cases h
  ·cases h
def b0f (P:Program) (kt:TypeId):Bool:=match P.underlying kt with
 |some (.struct _)=>true
 |_=>false
theorem b8p {κ:Type} [DecidableEq κ] {P:Program} {kt:TypeId} {cells:κ→List Value} (h:b0f P kt=true) (he:∀p q,eqV P 9 kt (.agg (cells p).toArray) (.agg (cells q).toArray)=some (decide (p=q)))
  (hc:∀p,c8L P 9 kt (.agg (cells p).toArray)=true) (hb:∀p,(cells p).all (fun v=>Instr.sameBits 9999 v v)=true):KeyOK P kt (fun p=>.agg (cells p).toArray) where
 find:=by
  obtain⟨fs,h1⟩:∃fs,P.underlying kt=some (.struct fs):=by
   unfold b0f at h
   split at h
   ·rename_i fs hfs;exact⟨fs,hfs⟩
   ·cases h
  intro w k es kvs hes
  have key:∀(es:List MapEntry) (kvs:List (κ×Value)) (i:Nat),es.map (fun e=>(e.key,e.val))=a2t (fun p=>.agg (cells p).toArray) kvs→(Instr.findAsking kt (.agg (cells k).toArray) es i).run P w = .ok (a3q kvs k i) w:=by
   intro es
   induction es with
   |nil=>intro kvs i he;cases kvs<;>simp_all [a2t,Instr.findAsking,a3q]
   |cons e es ih=>
    intro kvs i hes
    cases kvs with
    |nil=>simp[a2t]at hes
    |cons p kvs=>
     obtain⟨k',v⟩:=p
     simp only[List.map_cons,a2t,List.cons.injEq,Prod.mk.injEq]at hes
     obtain⟨⟨h1,h2⟩,h3⟩:=hes
     have hr:=b1T (P:=P) 9 kt _ _ _ (he k k') 10000 (by omega) w
     simp only[Instr.findAsking,h1,Sem.run_bind,Op.equal,Op.maxDepth,hr,Result.andThen_ok]
     by_cases hk:k'=k
     ·subst hk;simp[a3q,h2]
     ·have:¬k=k':=fun e=>hk e.symm
      simp only[this,decide_false,Bool.false_eq_true,if_false,a3q,if_neg hk]
      exact ih kvs (i+1) h3
  simp only[Instr.findKey,Sem.run_bind,run_underlying h1,Result.andThen_ok]
  cases es with
  |nil=>cases kvs<;>simp_all [a2t,Instr.findNow,a3q]
  |cons e es=>
   have:Instr.findNow (.struct fs) (.agg (cells k).toArray) (e::es) 0=none:=by simp[Instr.findNow,Instr.sameNow]
   simp only[this]
   exact key _ kvs 0 hes
 check:=fun w b k=>b5Y 9 kt _ (hc k) 10000 (by omega) w
 same:=by
  intro k
  show Instr.sameBits (9999+1) (.agg (cells k).toArray) (.agg (cells k).toArray)=true
  have:=hb k
  rw[List.all_eq_true]at this
  simp only[Instr.sameBits,beq_self_eq_true,Bool.true_and,List.all_eq_true]
  intro p hp;obtain⟨i,hi,rfl⟩:=List.getElem_of_mem hp
  simp only[List.getElem_zip]
  exact this _ (List.getElem_mem _)
theorem c2A (n:Nat) (s:ByteArray):Instr.sameBits n (.string s) (.string s)=true:=by
 have hs:(s == s)=true:=by rw[b5Q];simp
 cases n<;>simp[Instr.sameBits,hs]
theorem c2z (n:Nat) (k:IntKind) (i:Int):Instr.sameBits n (.int k i) (.int k i)=true:=by cases n<;>simp[Instr.sameBits]
end Go.Sx
namespace Go.Proofs.YtdapmfkbpnjkmaaGreat
open Go Go.Sx
set_option linter.all false
set_option maxRecDepth 20000
set_option maxHeartbeats 4000000
instance T.elt_25:Has (a8D Tryz.prog 25) (64,2):=⟨by kernel_rfl⟩
instance T.elt_65:Has (a8D Tryz.prog 65) (3,1):=⟨by kernel_rfl⟩
instance T.fld_64_0:Has (a3G Tryz.prog 64 0) (0,false,1):=⟨by kernel_rfl⟩
instance T.fld_64_1:Has (a3G Tryz.prog 64 1) (1,false,1):=⟨by kernel_rfl⟩
instance T.ty_25:Has (tyK Tryz.prog 25) (false,1):=⟨by kernel_rfl⟩
instance T.ty_64:Has (tyK Tryz.prog 64) (true,2):=⟨by kernel_rfl⟩
instance T.ty_65:Has (tyK Tryz.prog 65) (false,1):=⟨by kernel_rfl⟩
instance T.und_126:Has (Tryz.prog.underlying 126) (.map 96 4):=⟨by kernel_rfl⟩
instance T.und_25:Has (Tryz.prog.underlying 25) (.slice 64):=⟨by kernel_rfl⟩
instance T.und_65:Has (Tryz.prog.underlying 65) (.slice 3):=⟨by kernel_rfl⟩
instance T.zero_64:Has (a1Z Tryz.prog 64) [.slice none 0 0,.bool false]:=⟨by kernel_rfl⟩
theorem c5v:KeyOK Tryz.prog 96 d1b:=b8p (cells:=Evt.cells) (by kernel_rfl) (fun p q=>b1S p q) (fun p=>by kernel_rfl) (fun p=>by simp[Evt.cells,c2A,c2z])
theorem b2w (I:IMap) (r:Rep) (S:Option Addr) (d:Nat) (hr:RdS I (.slice S r.options.length d) r.options) (hs:∀e∈r.options,SmE e) :
    FnV Tryz.prog 34 #[.agg (r.cells (.slice S r.options.length d)).toArray] I (.bool (a0t r)):=by
 have hSA:RdA I S r.options:=(by obtain⟨_,_,e,h,_⟩:=hr;cases e;exact h)
 have hl4:d≤9223372036854775807:=(by obtain⟨_,_,e,h,h1,h2⟩:=hr;cases e;exact h2)
 have hl5:=hr.lenLe
 refine enter Tryz.func34 Tryz.call34 rfl Tryz.ntmps34 rfl (fun w0=>?_);refine go 3 ?_;refine a0B _ rfl rfl rfl (fun g1=>?_);refine go 5 ?_;refine a2z (I':=I) (L':=[(1,.pointer (some ⟨g1,0,none⟩)),(15,.bool (decide (((r.options.length:Nat):Int)=0)||decide ((4:Int)<(r.options.length:Nat))))]) (H':=[.blk g1 64 (r.cells (.slice S r.options.length d))]) ?_ ?_
 ·refine go 6 ?_;refine sxb 10 rfl (fun h10 p10=>?_) (fun h10 p10=>?_)
  ·refine go 7 ?_;exact a0E ⟨rfl,(congrArg (fun b=>some (Value.bool b)) (by simp only[h10,bS])),trivial⟩ rfl rfl
  ·refine go 7 ?_;exact a0E ⟨rfl,(congrArg (fun b=>some (Value.bool b)) (by simp only[h10,bS])),trivial⟩ rfl rfl
 ·refine cb rfl (fun h15 p15=>?_) (fun h15 p15=>?_)
  ·refine go 7 ?_;refine a0x rfl rfl ?_;exact q_v (congrArg Value.bool (by simp only[a0t,h15];rfl))
  ·refine go 5 ?_;refine a7v (d1b) he rfl (fun r16=>?_);refine go 13 ?_
   refine a0L (α:=Nat) 0 (fun i=>I)
    (fun i=>[(1,.pointer (some ⟨g1,0,none⟩)),(3,.map (some r16)),(18,.slice S r.options.length d),(19,.int .i64 ((r.options.length:Nat):Int)),(20,.int .i64 ((i:Nat):Int))])
    (fun i=>[.mp r16 (a2t d1b (a3d _root_.id (fun _=>Value.bool true) (r.options.take i))),.blk g1 64 (r.cells (.slice S r.options.length d))])
    (fun i=>i≤r.options.length∧a3A a4I r.options i=true)
    (fun i=>r.options.length-i) ⟨Nat.zero_le _,rfl⟩ rfl sb rfl ?_
   intro i ⟨hi,hn⟩;refine go 6 ?_;refine cb rfl (fun h21 p21=>?_) (fun h21 p21=>?_)
   ·have hlt:i<r.options.length:=by omega
    refine go 6 ?_;obtain⟨b22,o22,w22,e22,c22,r22⟩:=RdA.at_ hSA (i:=i) hlt;obtain rfl:=r22;refine o_v rfl (a0n he rfl rfl e22 (i) (by omega) hlt) ?_;refine o_v rfl (a0H he rfl c22 rfl) ?_;refine go 1 ?_;refine a0h he rfl (fun g5=>?_);refine go 1 ?_;refine a0m _ he rfl rfl rfl rfl rfl rfl ?_;refine go 4 ?_;refine a2z (I':=I) (L':=[(1,.pointer (some ⟨g1,0,none⟩)),(3,.map (some r16)),(18,.slice S r.options.length d),(19,.int .i64 ((r.options.length:Nat):Int)),(20,.int .i64 ((i:Nat):Int)),(5,.pointer (some ⟨g5,0,none⟩)),(31,.bool (hit _root_.id (r.options.take i) r.options[i] || !a1H r.options[i]))]) (H':=[.blk g5 96 r.options[i].cells,.mp r16 (a2t d1b (a3d _root_.id (fun _=>Value.bool true) (r.options.take i))),.blk g1 64 (r.cells (.slice S r.options.length d))]) ?_ ?_
    ·refine go 3 ?_;refine o_v rfl (c1Z m1 (c5v) he he (r.options[i]) rfl rfl (a8V _root_.id _ _)) ?_;refine go 1 ?_;refine sxb 27 rfl (fun h27 p27=>?_) (fun h27 p27=>?_)
     ·refine go 6 ?_;exact a0E ⟨rfl,rfl,rfl,rfl,rfl,rfl,(congrArg (fun b=>some (Value.bool b)) (by simp only[h21,h27,bS])),trivial⟩ rfl rfl
     ·refine go 2 ?_;refine a0y rfl rfl h27 (a0a (b4R _ r.options[i] (hs _ (List.getElem_mem hlt))) rfl rfl ?_);refine go 4 ?_;exact a0E ⟨rfl,rfl,rfl,rfl,rfl,rfl,(congrArg (fun b=>some (Value.bool b)) (by simp only[h21,h27,bS])),trivial⟩ rfl rfl
    ·refine cb rfl (fun h31 p31=>?_) (fun h31 p31=>?_)
     ·refine go 12 ?_;refine a0x rfl rfl ?_;exact q_v (congrArg Value.bool (by simp only[a0t,h15,a1A hlt (show a4I (r.options.take i) r.options[i]=false from (congrArg not h31).trans rfl),bS]))
     ·refine go 6 ?_
      have h31n:hit _root_.id (r.options.take i) r.options[i]=false:=by revert h31;cases hit _root_.id (r.options.take i) r.options[i]<;>simp
      refine a0g ?_;refine a4t (a3d _root_.id (fun _=>Value.bool true) (r.options.take (i+1))) (c5v) he (r.options[i]) rfl rfl rfl ((a9J _root_.id (fun _=>Value.bool true) (r.options.take i) r.options[i] (a7o h31n)).trans (by rw[a0q hlt])) ?_;refine go 8 ?_;refine a0g ?_;refine a0b ?_;exact a0J (i+1) ⟨by omega,a1M hn hlt (show a4I (r.options.take i) r.options[i]=true from (congrArg not h31).trans rfl)⟩ (by omega) rfl sb rfl
   ·refine go 11 ?_;refine a0x rfl rfl ?_
    have e:i=r.options.length:=(by omega)
    subst e;exact q_v (congrArg Value.bool (by simp only[a0t,hn,h15];rfl))
theorem a4B (I:IMap) (r:Rep) (S:Option Addr) (d:Nat) (hr:RdS I (.slice S r.options.length d) r.options) (hs:∀e∈r.options,SmE e) :
    FnV Tryz.prog 32 #[.agg (r.cells (.slice S r.options.length d)).toArray] I (.int .i64 (chs r)):=by
 have hl5:=hr.lenLe
 refine enter Tryz.func32 Tryz.call32 rfl Tryz.ntmps32 rfl (fun w0=>?_);refine go 3 ?_;refine a0B _ rfl rfl rfl (fun g1=>?_);refine go 9 ?_;refine a0a (b2w _ r S d hr hs) rfl rfl ?_;refine go 4 ?_;refine cb rfl (fun h3 p3=>?_) (fun h3 p3=>?_)
 ·refine go 8 ?_;refine a0x rfl rfl ?_;exact q_v (congrArg (Value.int .i64) (by simp only[chs,show a0t r=false by simpa using h3,Bool.true_eq_false,Bool.false_eq_true,if_true,if_false]))
 ·have hl4:=a2Y (r:=r) (by simpa using h3)
  refine go 7 ?_;refine cb rfl (fun h7 p7=>?_) (fun h7 p7=>?_)
  ·refine go 5 ?_;refine o_v rfl (a2c rfl rfl ⟨by omega,by have:=hl4;omega⟩) ?_;refine go 6 ?_;refine a0x rfl rfl ?_;exact q_v (congrArg (Value.int .i64) (by simp only[chs,show a0t r=true by simpa using h3,h7,Bool.true_eq_false,Bool.false_eq_true,if_true,if_false]))
  ·refine go 12 ?_;refine a0x rfl rfl ?_;exact q_v (congrArg (Value.int .i64) (by simp only[chs,show a0t r=true by simpa using h3,h7,Bool.true_eq_false,Bool.false_eq_true,if_true,if_false]))
theorem c0n (I:IMap) (vc:Value) (c:List Kind) (hvc:RdS I vc c) (hsc:SmC c) (v:Value) (l:List Rep) (hv:RdS I v l) (hsl:∀r∈l,∀e∈r.options,SmE e) (w:Value) (ch:List Int) (hw:RdS I w ch) (n:Int) :
    FnV Tryz.prog 241 #[.agg #[vc],v,w,.int .i64 n] I (.bool (a1T c l ch n)):=by
 obtain⟨A,c0,rfl,hA,hc,hm⟩:=hv;obtain⟨B,c1,rfl,hB,hc1,hm1⟩:=hw;refine enter Tryz.func241 Tryz.call241 rfl Tryz.ntmps241 rfl (fun w0=>?_);refine go 3 ?_;refine a0B _ rfl rfl rfl (fun g4=>?_);refine go 5 ?_;refine a2z (I':=I) (L':=[(4,.pointer (some ⟨g4,0,none⟩)),(1,.slice A l.length c0),(2,.slice B ch.length c1),(3,.int .i64 n),(21,.bool (!a0Y c || !decide (((ch.length:Nat):Int)=(l.length:Nat))))]) (H':=[.blk g4 24 [vc]]) ?_ ?_
 ·refine go 3 ?_;refine a0a (a8N _ vc c hvc hsc) rfl rfl ?_;refine go 2 ?_;refine sxb 15 rfl (fun h15 p15=>?_) (fun h15 p15=>?_)
  ·refine go 8 ?_;exact a0E ⟨rfl,rfl,rfl,rfl,(congrArg (fun b=>some (Value.bool b)) (by simp only[h15,bS])),trivial⟩ rfl rfl
  ·refine go 8 ?_;exact a0E ⟨rfl,rfl,rfl,rfl,(congrArg (fun b=>some (Value.bool b)) (by simp only[h15,bS])),trivial⟩ rfl rfl
 ·refine cb rfl (fun h21 p21=>?_) (fun h21 p21=>?_)
  ·refine go 7 ?_;refine a0x rfl rfl ?_;exact q_v (congrArg Value.bool (by simp only[a1T,h21];rfl))
  ·have hlc:ch.length=l.length:=by revert h21;simp;omega
   refine go 11 ?_
   refine a0L (α:=Nat) 0 (fun i=>I)
    (fun i=>[(4,.pointer (some ⟨g4,0,none⟩)),(1,.slice A l.length c0),(2,.slice B ch.length c1),(3,.int .i64 n),(22,.slice A l.length c0),(23,.int .i64 ((l.length:Nat):Int)),(24,.int .i64 ((i:Nat):Int))])
    (fun i=>[.blk g4 24 [vc]])
    (fun i=>i≤l.length∧a7N (a8s n) l ch i=true)
    (fun i=>l.length-i) ⟨Nat.zero_le _,rfl⟩ rfl sb rfl ?_
   intro i ⟨hi,hn⟩;refine go 6 ?_;refine cb rfl (fun h25 p25=>?_) (fun h25 p25=>?_)
   ·have hlt:i<l.length:=by omega
    have hlt2:i<ch.length:=by omega
    refine go 7 ?_;obtain⟨b27,o27,w27,e27,c27,r27⟩:=RdA.at_ hA (i:=i) hlt;obtain⟨q27,rfl,S27,d27,rfl,hS27,hd27,hm27⟩:=r27;refine o_v rfl (a0n he rfl rfl e27 (i) (by omega) hlt) ?_;refine o_v rfl (a0H he rfl c27 rfl) ?_;refine go 1 ?_;refine a0h he rfl (fun g10=>?_);refine go 2 ?_;refine a0m _ he rfl rfl rfl rfl rfl rfl ?_;refine go 6 ?_;refine a0a (a4B _ l[i] S27 d27 ⟨_,_,rfl,hS27,hd27,hm27⟩ (hsl _ (List.getElem_mem hlt))) rfl rfl ?_;refine go 4 ?_;refine a2z (I':=I) (L':=[(4,.pointer (some ⟨g4,0,none⟩)),(1,.slice A l.length c0),(2,.slice B ch.length c1),(3,.int .i64 n),(22,.slice A l.length c0),(23,.int .i64 ((l.length:Nat):Int)),(24,.int .i64 ((i:Nat):Int)),(48,.bool ((decide (chs l[i]=0)||decide (ch[i]<n))||decide (chs l[i]≤ch[i])))]) (H':=[.blk g4 24 [vc]]) ?_ ?_
    ·refine go 4 ?_;refine sxb 33 rfl (fun h33 p33=>?_) (fun h33 p33=>?_)
     ·refine go 17 ?_;refine a0b ?_;exact a0E ⟨rfl,rfl,rfl,rfl,rfl,rfl,rfl,(congrArg (fun b=>some (Value.bool b)) (by simp only[h25,h33,bS])),trivial⟩ rfl rfl
     ·refine go 2 ?_;obtain⟨b36,o36,w36,e36,c36,r36⟩:=RdA.at_ hB (i:=i) hlt2;obtain rfl:=r36;refine a0v (a0y rfl rfl h33 (a0l rfl (a0n he rfl rfl e36 (i) (by omega) hlt2) ?_));refine a0v (a0y rfl rfl h33 (a0l rfl (a0W he rfl (c36 0 _ rfl)) ?_));refine go 4 ?_;refine sxb 41 rfl (fun h41 p41=>?_) (fun h41 p41=>?_)
      ·refine go 9 ?_;refine a0b ?_;exact a0E ⟨rfl,rfl,rfl,rfl,rfl,rfl,rfl,(congrArg (fun b=>some (Value.bool b)) (by simp only[h25,h33,h41,bS])),trivial⟩ rfl rfl
      ·refine go 2 ?_;obtain⟨b44,o44,w44,e44,c44,r44⟩:=RdA.at_ hB (i:=i) hlt2;obtain rfl:=r44;refine a0v (a0y rfl rfl h41 (a0l rfl (a0n he rfl rfl e44 (i) (by omega) hlt2) ?_));refine a0v (a0y rfl rfl h41 (a0l rfl (a0W he rfl (c44 0 _ rfl)) ?_));refine go 5 ?_;refine a0b ?_;exact a0E ⟨rfl,rfl,rfl,rfl,rfl,rfl,rfl,(congrArg (fun b=>some (Value.bool b)) (by simp only[h25,h33,h41,bS])),trivial⟩ rfl rfl
    ·refine cb rfl (fun h48 p48=>?_) (fun h48 p48=>?_)
     ·refine go 11 ?_;refine a0x rfl rfl ?_;exact q_v (congrArg Value.bool (by simp only[a1T,h21,b2M (f:=a8s n) hlt hlt hlt2 (by simp only[a8s,h48];rfl),bS]))
     ·refine go 8 ?_;exact a0J (i+1) ⟨by omega,a7O hn hlt hlt2 (by simp only[a8s,h48];rfl)⟩ (by omega) rfl sb rfl
   ·refine go 11 ?_;refine a0x rfl rfl ?_
    have e:i=l.length:=(by omega)
    subst e;exact q_v (congrArg Value.bool (by simp only[a1T,hn,h21];rfl))
theorem c9G (I:IMap) (A B:Option Addr) (a c b d:Nat) :
    FnI Tryz.prog 242 #[.slice A a c,.slice B b d] I (fun u J=>∃g2 g3,u = .func (.func 300) #[] #[.pointer (some ⟨g2,0,none⟩),.pointer (some ⟨g3,0,none⟩)]∧ICells J g2 0 [.slice A a c]∧ICells J g3 0 [.slice B b d]):=by
 refine enter Tryz.func242 Tryz.call242 rfl Tryz.ntmps242 rfl (fun w0=>?_);refine go 3 ?_;refine a0B _ rfl rfl rfl (fun g2=>?_);refine go 1 ?_;refine a0B _ rfl rfl rfl (fun g3=>?_);refine go 5 ?_;refine a0g ?_;refine a2f (fun Ig2 jg2 cg2=>?_);refine a2f (fun Ig3 jg3 cg3=>?_)
 have cg2:=(cg2).le jg3
 refine o_v rfl (a1a rfl rfl) ?_;refine go 4 ?_;refine a0x rfl rfl ?_;exact q_i ⟨_,_,rfl,cg2,cg3⟩
theorem c9v (I:IMap) (v:Value) (l:List Rep) (hv:RdS I v l) (w:Value) (ch:List Int) (hw:RdS I w ch) (hlc:ch.length=l.length) (g2 g3:Nat) (c2:ICells I g2 0 [v]) (c3:ICells I g3 0 [w]) :
    d0Y Tryz.prog 300 [.pointer (some ⟨g2,0,none⟩),.pointer (some ⟨g3,0,none⟩)] I (fun _ vs (x:Int)=>vs=[ci x]) (fun pre x=>pre++[x] <+: a1D l ch l.length) (fun pre=>pre=a1D l ch l.length) (fun _=>True):=by
 obtain⟨A,c0,rfl,hA,hc,hm⟩:=hv;obtain⟨B,c1,rfl,hB,hc1,hm1⟩:=hw;intro ly J I1 Hc hI1 hJm hY hJ0
 have hA:=hA.le hI1
 have hB:=hB.le hI1
 have c2:=c2.le hI1
 have c3:=c3.le hI1
 refine enter Tryz.func300 Tryz.call300 rfl Tryz.ntmps300 rfl (fun w0=>?_);refine go 2 ?_;refine o_v rfl (a0W he rfl (c2 0 _ rfl)) ?_;refine go 5 ?_
 refine a3B ((0:Nat)) (I1) (Hc) (fun i I2 Hc=>I2)
  (fun i I2 Hc=>[(0,.func (.yield ly) #[] #[]),(1,.pointer (some ⟨g2,0,none⟩)),(2,.pointer (some ⟨g3,0,none⟩)),(8,.slice A l.length c0),(9,.int .i64 ((l.length:Nat):Int)),(10,.int .i64 ((i:Nat):Int))])
  (fun i I2 Hc=>Hc)
  (fun i I2 Hc=>i≤l.length∧ILe I1 I2∧J true (a1D l ch i) I2 Hc)
  (fun i I2 Hc=>l.length-i) ⟨Nat.zero_le _,ILe.refl _,hJ0⟩ rfl sb rfl ?_
 intro i I2 Hc ⟨hi,hI2,hJ⟩
 have hA:=hA.le hI2
 have hB:=hB.le hI2
 have c3:=c3.le hI2
 refine go 6 ?_;refine cb rfl (fun h11 p11=>?_) (fun h11 p11=>?_)
 ·have hlt:i<l.length:=by omega
  have hlt2:i<ch.length:=by omega
  refine go 7 ?_;obtain⟨b13,o13,w13,e13,c13,r13⟩:=RdA.at_ hA (i:=i) hlt;obtain⟨q13,rfl,S13,d13,rfl,hS13,hd13,hm13⟩:=r13;refine o_v rfl (a0n he rfl rfl e13 (i) (by omega) hlt) ?_;refine o_v rfl (a0H he rfl c13 rfl) ?_;refine go 1 ?_;refine a0h he rfl (fun g5=>?_);refine go 2 ?_;refine a0m _ he rfl rfl rfl rfl rfl rfl ?_;refine go 11 ?_
  refine a3B ((0:Nat)) (I2) (Hc) (fun j I3 Hc3=>I3)
   (fun j I3 Hc3=>[(0,.func (.yield ly) #[] #[]),(1,.pointer (some ⟨g2,0,none⟩)),(2,.pointer (some ⟨g3,0,none⟩)),(8,.slice A l.length c0),(9,.int .i64 ((l.length:Nat):Int)),(10,.int .i64 ((i:Nat):Int)),(4,.int .i64 ((i:Nat):Int)),(5,.pointer (some ⟨g5,0,none⟩)),(16,.slice S13 l[i].options.length d13),(17,.int .i64 ((l[i].options.length:Nat):Int)),(18,.int .i64 ((j:Nat):Int))])
   (fun j I3 Hc3=>.blk g5 64 (l[i].cells (.slice S13 l[i].options.length d13))::Hc3)
   (fun j I3 Hc3=>j≤l[i].options.length∧ILe I2 I3∧J true (a5r l ch i j) I3 Hc3)
   (fun j I3 Hc3=>l[i].options.length-j) ⟨Nat.zero_le _,ILe.refl _,by rw[b5q];exact hJ⟩ rfl sb rfl ?_
  intro j I3 Hc3 ⟨hj,hI3,hJ3⟩
  have hB:=hB.le hI3
  have c3:=c3.le hI3
  have hS13:=hS13.le hI3
  refine go 6 ?_;refine cb rfl (fun h19 p19=>?_) (fun h19 p19=>?_)
  ·have hlj:j<l[i].options.length:=by omega
   refine go 6 ?_;obtain⟨b20,o20,w20,e20,c20,r20⟩:=RdA.at_ hS13 (i:=j) hlj;obtain rfl:=r20;refine o_v rfl (a0n he rfl rfl e20 (j) (by omega) hlj) ?_;refine o_v rfl (a0H he rfl c20 rfl) ?_;refine go 1 ?_;refine a0h he rfl (fun g7=>?_);refine go 1 ?_;refine a0m _ he rfl rfl rfl rfl rfl rfl ?_;refine go 4 ?_;refine o_v rfl (a0W he rfl (c3 0 _ rfl)) ?_;refine go 1 ?_;obtain⟨b24,o24,w24,e24,c24,r24⟩:=RdA.at_ hB (i:=i) hlt2;obtain rfl:=r24;refine o_v rfl (a0n he rfl rfl e24 (i) (by omega) hlt2) ?_;refine o_v rfl (a0W he rfl (c24 0 _ rfl)) ?_;refine go 2 ?_;refine sxb 27 rfl (fun h27 p27=>?_) (fun h27 p27=>?_)
   ·refine go 4 ?_;refine a0y rfl rfl h27 (b6W (l[i].options[j].day) hY (hJm _ _ _ _ _ (ILe.refl _) hJ3) (rfl) (b8A hlt hlt2 p27 hlj) rfl rfl rfl (fun b31 I31 Hc31 j31 hJ31=>?_));refine go 4 ?_;refine cb rfl (fun h33 p33=>?_) (fun h33 p33=>?_)
    ·have hb31:b31=false:=by simpa using h33
     refine go 9 ?_;refine c3i rfl ?_;refine a0b ?_;refine a0b ?_;subst hb31;exact c8N false _ hJ31 trivial
    ·have hb31:b31=true:=by simpa using h33
     refine go 8 ?_;refine a0b ?_;exact a1X (j+1) (I31) (Hc31) ⟨by omega,hI3.trans j31,by rw[a9S hlt hlt2 p27 hlj];exact hb31▸hJ31⟩ (by omega) rfl sb rfl
   ·refine go 8 ?_;refine a0P rfl ?_;refine go 8 ?_;refine a0b ?_;exact a1X (j+1) (I3) (Hc3) ⟨by omega,hI3,by rw[b5p hlt hlt2 p27 j];exact hJ3⟩ (by omega) rfl sb rfl
  ·refine go 11 ?_;refine a0b ?_;exact a1X (i+1) (I3) (Hc3) ⟨by omega,hI2.trans hI3,by rw[←b1d hlt hlt2];exact (show j=l[i].options.length by omega)▸hJ3⟩ (by omega) rfl sb rfl
 ·have hil:i=l.length:=by omega
  refine go 4 ?_;refine a4y rfl ?_;exact c8N true _ hJ (by rw[hil];rfl)
end Go.Proofs.YtdapmfkbpnjkmaaGreat
