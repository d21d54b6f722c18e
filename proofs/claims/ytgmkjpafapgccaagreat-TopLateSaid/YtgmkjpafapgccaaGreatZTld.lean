
import Derived.Test.YtgmkjpafapgccaaGreatZTlc
namespace Go.Proofs.YtgmkjpafapgccaaGreat
open Go Go.Sx Tryz
set_option linter.all false
set_option maxRecDepth 20000
set_option maxHeartbeats 4000000
instance:Has (c7s prog 295) (3,294,1):=hk
instance:Has (c7s prog 370) (8,9,1):=hk
theorem T.eqg_130:prog.eqGuardType prog.depth 130=false:=by kernel_rfl
instance:Has (a1g prog 128 0) (0,true,2):=hk
instance:Has (a1g prog 128 1) (2,true,2):=hk
instance:Has (a1g prog 128 2) (4,true,2):=hk
instance:Has (a1g prog 130 0) (0,false,1):=hk
instance:Has (a1g prog 130 1) (1,false,1):=hk
instance:Has (a1g prog 130 2) (2,false,1):=hk
instance:Has (a1g prog 130 3) (3,false,1):=hk
instance:Has (a1g prog 130 4) (4,false,1):=hk
instance:Has (a1g prog 130 5) (5,false,1):=hk
instance:Has (a1g prog 130 6) (6,false,1):=hk
instance:Has (a1g prog 130 7) (7,false,1):=hk
instance:Has (a1g prog 130 8) (8,true,6):=hk
instance:Has (a1g prog 81 0) (0,false,1):=hk
instance:Has (a1g prog 81 1) (1,false,1):=hk
instance:Has (plK prog 128) [(0,2),(2,2),(4,2)]:=hk
instance:Has (plK prog 130) [(0,1),(1,1),(2,1),(3,1),(4,1),(5,1),(6,1),(7,1),(8,6)]:=hk
instance:Has (tyK prog 128) (true,6):=hk
instance:Has (tyK prog 294) (false,1):=hk
instance:Has (tyK prog 295) (true,3):=hk
instance:Has (tyK prog 370) (true,8):=hk
instance:Has (a1i prog 128) [.int .i64 0,.int .i64 0,.int .i64 0,.int .i64 0,.int .i64 0,.int .i64 0]:=hk
instance:Has (a1i prog 130) [.int .i64 0,.int .i64 0,.string ⟨#[]⟩,.string ⟨#[]⟩,.string ⟨#[]⟩,.string ⟨#[]⟩,.string ⟨#[]⟩,.string ⟨#[]⟩,.int .i64 0,.int .i64 0,.int .i64 0,.int .i64 0,.int .i64 0,.int .i64 0]:=hk
instance:Has (a1i prog 295) [.pointer none,.pointer none,.pointer none]:=hk
instance:Has (a1i prog 370) [.string ⟨#[]⟩,.string ⟨#[]⟩,.string ⟨#[]⟩,.string ⟨#[]⟩,.string ⟨#[]⟩,.string ⟨#[]⟩,.string ⟨#[]⟩,.string ⟨#[]⟩]:=hk
instance:Has (a1i prog 9) [.string ⟨#[]⟩]:=hk
theorem b2b (a b:Evt):eqV prog 9 130 (.agg a.cells.toArray) (.agg b.cells.toArray)=some (decide (a=b)):=by
 rw[←Evt.eqB_eq]
 kernel_rfl
theorem c8V (a b:Prp):eqV prog 9 234 (.agg a.cells.toArray) (.agg b.cells.toArray)=some (decide (a=b)):=by
 rw[←Prp.eqB_eq]
 kernel_rfl
theorem d2t (I:IMap) (op:Int) :
    FnV prog 187 #[.int .i64 op] I (.string (b0w op)):=by
 refine enter func187 call187 rfl ntmps187 rfl fun w0=>?_;refine go 8 ?_;refine a0t rfl (b8e he he rfl rfl) ?_;refine go 2 fun g3=>?_
 refine gS 10 7 (fun h7 p7=>?_) fun h7 p7=>?_
 ·refine go 14 ?_;exact q_v (congrArg Value.string (b1Q oM).symm)
 ·refine gC 5 (fun h10 p10=>?_) fun h10 p10=>?_
  ·refine go 8 ?_;exact q_v (congrArg Value.string (b1Q oM).symm)
  ·refine go 5 ?_;refine o_v rfl (a7D he rfl rfl op.toNat oM oM) ?_;refine o_v rfl (b2S m0 he rfl (by rw[show 0+op.toNat * 1=op.toNat from by omega];exact c3H oM oM)) ?_;refine go 5 ?_;exact q_v rfl
theorem d2s (I:IMap) (g o:Nat) :
    FnV prog 188 #[.pointer (some ⟨g,o,none⟩)] I (.agg #[.pointer (some ⟨g,o+0,none⟩),.pointer (some ⟨g,o+2,none⟩),.pointer (some ⟨g,o+4,none⟩)]):=by
 refine enter func188 call188 rfl ntmps188 rfl fun w0=>?_;refine go 4 fun g2=>?_
 refine go 3 ?_;refine ds1 ?_;refine dH 0 9 ?_;refine a0t rfl (b8e he he rfl rfl) ?_;refine dH 10 0 ?_;refine go 6 ?_;exact q_v rfl
theorem c4A (I:IMap) (s:ByteArray) (hs:Sm s) :
    FnV prog 190 #[.string s] I (.bool (!a1j s)):=by
 refine enter func190 call190 rfl ntmps190 rfl fun w0=>?_;refine go 9 ?_;refine cV (a3n _ s hs) ?_;refine go 6 ?_;exact q_v rfl
theorem b5i (I:IMap) (e:Evt) (hs:SmE e) :
    FnV prog 100 #[.agg e.cells.toArray] I (.bool (a1t e)):=by
 refine enter func100 call100 rfl ntmps100 rfl fun w0=>?_;refine go 4 fun g1=>?_
 refine go 5 ?_;refine a1N (I':=I) (L':=[(1,.pointer (some ⟨g1,0,none⟩)),(26,.bool (a9w e))]) (H':=[.blk g1 130 e.cells]) ?_ ?_
 ·refine go 4 ?_;refine cV (d2t _ e.op) ?_;refine gS 2 11 (fun h11 p11=>?_) fun h11 p11=>?_
  ·refine go 17 ?_;exact a0o ⟨rfl,(bB (by simp only[a9w,h11,bS])),trivial⟩ rfl rfl
  ·refine gS 5 16 (fun h16 p16=>?_) fun h16 p16=>?_
   ·refine go 12 ?_;exact a0o ⟨rfl,(bB (by simp only[a9w,h11,h16,bS])),trivial⟩ rfl rfl
   ·refine gS 5 21 (fun h21 p21=>?_) fun h21 p21=>?_
    ·refine go 7 ?_;exact a0o ⟨rfl,(bB (by simp only[a9w,h11,h16,h21,bS])),trivial⟩ rfl rfl
    ·refine go 3 ?_;refine a0q rfl rfl h21 (a0v (a3n _ _ hs.1) rfl rfl ?_);refine go 4 ?_;exact a0o ⟨rfl,(bB (by simp only[a9w,h11,h16,h21,bS])),trivial⟩ rfl rfl
 ·refine gC 0 (fun h26 p26=>?_) fun h26 p26=>?_
  ·refine go 8 ?_;exact q_v (congrArg Value.bool (by simp only[a1t,h26];rfl))
  ·refine go 6 fun v27=>?_
   refine go 8 fun g4=>?_
   refine go 18 ?_;refine a6z (Ix:=(fun v3 xs=>I)) (Lx:=(fun v3 xs=>[(3,v3),(4,.pointer (some ⟨g4,0,none⟩))])) (Hx:=(fun v3 xs=>[.row v3 9 1 (a1C e).length xs,.blk g4 130 (a5J e).cells])) (p:=(fun v3 xs=>Flat I xs (a1C e)∧a5v e=false)) ?_ ?_
   ·refine gC 13 (fun h34 p34=>?_) fun h34 p34=>?_
    ·refine go 5 fun v38=>?_
     refine go 3 ?_;refine a0b ?_;refine go 4 ?_;refine a0d ?_;refine a0a ?_;refine a0d ?_;refine a0a ?_;refine a0b ?_;exact a1U (_) (_) ⟨(by simp only[a1C,p26,p34,if_true,if_false];first|exact .nil|exact .one rfl|exact .cons rfl (.one rfl)),(by simp[a5v,p26,p34,h26,h34]<;>assumption)⟩ sb (by simp only[a1C,a5J,p26,p34,if_true,if_false];rfl) rfl
    ·refine gC 6 (fun h40 p40=>?_) fun h40 p40=>?_
     ·refine gC 10 (fun h46 p46=>?_) fun h46 p46=>?_
      ·refine go 10 ?_;exact q_v (congrArg Value.bool (by simp[a1t,a5v,p26,p34,p40,p46,h26,h34,h40,h46]))
      ·refine go 9 fun v51=>?_
       refine go 3 ?_;refine a0b ?_;refine go 7 ?_;refine a0d ?_;refine a0a ?_;refine a0d ?_;refine a0a ?_;refine a0b ?_;exact a1U (_) (_) ⟨(by simp only[a1C,p26,p34,p40,p46,if_true,if_false];first|exact .nil|exact .one rfl|exact .cons rfl (.one rfl)),(by simp[a5v,p26,p34,p40,p46,h26,h34,h40,h46]<;>assumption)⟩ sb (by simp only[a1C,a5J,p26,p34,p40,p46,if_true,if_false];rfl) rfl
     ·refine gC 6 (fun h54 p54=>?_) fun h54 p54=>?_
      ·refine go 2 ?_;refine a1N (I':=I) (L':=[(1,.pointer (some ⟨g1,0,none⟩)),(3,v27),(4,.pointer (some ⟨g4,0,none⟩)),(64,.bool (decide (e.value=a0O)||decide ((200:Int)<(e.value.size:Nat))))]) (H':=[.row v27 9 1 0 [],.blk g1 130 e.cells,.blk g4 130 ({ e with op:=0,day:=0,part:=a0O }:Evt).cells]) ?_ ?_
       ·refine gS 5 59 (fun h59 p59=>?_) fun h59 p59=>?_
        ·refine go 7 ?_;refine a0d ?_;refine a0d ?_;exact a0o ⟨rfl,rfl,rfl,(bB (by simp only[h26,h34,h40,h54,h59,bS])),trivial⟩ rfl rfl
        ·refine go 7 ?_;refine a0d ?_;refine a0d ?_;exact a0o ⟨rfl,rfl,rfl,(bB (by simp only[h26,h34,h40,h54,h59,bS])),trivial⟩ rfl rfl
       ·refine gC 0 (fun h64 p64=>?_) fun h64 p64=>?_
        ·refine go 10 ?_;exact q_v (congrArg Value.bool (by simp[a1t,a5v,p54,h64]))
        ·refine go 7 fun v67=>?_
         refine go 3 ?_;refine a0u ?_;refine go 7 ?_;refine a0d ?_;refine a0a ?_;refine a0d ?_;refine a0a ?_;refine a0b ?_;exact a1U (_) (_) ⟨(by simp only[a1C,p26,p34,p40,p54,p64,if_true,if_false];first|exact .nil|exact .one rfl|exact .cons rfl (.one rfl)),(by simp[a5v,p26,p34,p40,p54,p64,h64]<;>assumption)⟩ sb (by simp only[a1C,a5J,p26,p34,p40,p54,p64,if_true,if_false];rfl) rfl
      ·refine gC 6 (fun h70 p70=>?_) fun h70 p70=>?_
       ·refine go 5 ?_;refine cV (d2s _ g1 8) ?_;refine go 4 ?_;refine a0b ?_;refine a0b ?_;refine a0d ?_
        refine a0x (α:=Nat) 0 (fun i=>I)
         (fun i=>[(1,.pointer (some ⟨g1,0,none⟩)),(3,v27),(4,.pointer (some ⟨g4,0,none⟩)),(73,.agg (b6s g1 8).toArray),(74,.int .i64 (i:Int))])
         (fun i=>[.blk g1 130 e.cells,.blk g4 130 ({ e with op:=0,day:=0,part:=a0O }:Evt).cells,.row v27 9 1 0 []])
         (fun i=>i≤3∧b0W e.use i=true)
         (fun i=>3-i) ⟨oM,rfl⟩ rfl sb rfl ?_
        intro i ⟨hi,hn⟩;refine gC 6 (fun h75 p75=>?_) fun h75 p75=>?_
        ·have hlt:i<3:=oM;refine go 6 ?_;refine o_v rfl (d4x he he rfl rfl i rfl hlt (b9B g1 8 hlt)) ?_;refine go 4 ?_;refine a1N (I':=I) (L':=[(1,.pointer (some ⟨g1,0,none⟩)),(3,v27),(4,.pointer (some ⟨g4,0,none⟩)),(73,.agg (b6s g1 8).toArray),(74,.int .i64 (i:Int)),(99,.bool (!b0M (b4K e.use i)))]) (H':=[.blk g1 130 e.cells,.blk g4 130 ({ e with op:=0,day:=0,part:=a0O }:Evt).cells,.row v27 9 1 0 []]) ?_ ?_
         ·refine go 1 ?_;refine dG 0 3 ?_;refine a0I 3 rfl rfl (by kernel_rfl) rfl (.refl _) rfl (b2S m0 he rfl (c3p e hlt)) ?_;refine dG 4 2 ?_;refine gS 0 82 (fun h82 p82=>?_) fun h82 p82=>?_
          ·refine dG 6 17 ?_;refine go 2 ?_;exact a0o ⟨rfl,rfl,rfl,rfl,rfl,(bB (by simp only[b0M,h75,h82,bS,Bool.not_not])),trivial⟩ rfl rfl
          ·refine dG 6 3 ?_;refine d_t 9 rfl rfl (by kernel_rfl) rfl (fun _ m=>m.keeps (.refl _)) (a2V rfl rfl h82 (b2S m0 he rfl (c3p e hlt))) ?_;refine dG 10 3 ?_;refine d_t 13 rfl rfl (by kernel_rfl) rfl (fun _ m=>m.keeps (.refl _)) (a2V rfl rfl h82 (b2S m0 he rfl (b8c e hlt))) ?_;refine dG 14 3 ?_;refine gS 0 93 (fun h93 p93=>?_) fun h93 p93=>?_
           ·refine dG 17 6 ?_;refine go 2 ?_;exact a0o ⟨rfl,rfl,rfl,rfl,rfl,(bB (by simp only[b0M,h75,h82,h93,bS,Bool.not_not])),trivial⟩ rfl rfl
           ·refine dG 17 3 ?_;refine d_t 20 rfl rfl (by kernel_rfl) rfl (fun _ m=>m.keeps (.refl _)) (a2V rfl rfl h93 (b2S m0 he rfl (b8c e hlt))) ?_;refine dG 21 2 ?_;refine go 2 ?_;exact a0o ⟨rfl,rfl,rfl,rfl,rfl,(bB (by simp only[b0M,h75,h82,h93,bS,Bool.not_not])),trivial⟩ rfl rfl
         ·refine gC 0 (fun h99 p99=>?_) fun h99 p99=>?_
          ·refine go 14 ?_;exact q_v (congrArg Value.bool (by simp[a1t,a5v,p70,d1n hlt (by simpa using h99)]))
          ·refine go 8 ?_;exact a0w (i+1) ⟨oM,c6W hn (by simpa using h99)⟩ oM rfl sb rfl
        ·have hU:b0W e.use 3=true:=(show i=3 from oM)▸hn;refine go 9 ?_;refine a0b ?_;refine go 4 ?_;refine a0b ?_;refine a0a ?_;refine a0b ?_;exact a1U (_) (_) ⟨(by simp only[a1C,p26,p34,p40,p54,p70,p75,if_true,if_false];first|exact .nil|exact .one rfl|exact .cons rfl (.one rfl)),(by simp[a5v,p26,p34,p40,p54,p70,p75,h75]<;>assumption)⟩ sb (by simp only[a1C,a5J,p26,p34,p40,p54,p70,p75,if_true,if_false];rfl) rfl
       ·refine go 3 ?_;refine a0d ?_;refine a0a ?_;refine a0b ?_;exact a1U (_) (_) ⟨(by simp only[a1C,p26,p34,p40,p54,p70,if_true,if_false];first|exact .nil|exact .one rfl|exact .cons rfl (.one rfl)),(by simp[a5v,p26,p34,p40,p54,p70,h26,h34,h40,h54,h70]<;>assumption)⟩ sb (by simp only[a1C,a5J,p26,p34,p40,p54,p70,if_true,if_false];rfl) rfl
   ·intro v3 xs ⟨hF,hO⟩;refine go 4 ?_;refine o_v rfl (b0r T.eqg_130 (b2b (a5J e) d4D) rfl rfl) ?_;refine gS 1 106 (fun h106 p106=>?_) fun h106 p106=>?_
    ·refine go 2 ?_;refine a0q rfl rfl h106 (a9W m0 rfl rfl (hF) (fun I2 hI2 hR=>a6B I2 _ _ hR _ [] (fun s=>!a1j s) (fun x hx vs hr=>by cases hr;exact c4A I2 x (c5x hs hx))) rfl rfl ?_);refine go 7 ?_;exact q_v (congrArg Value.bool (by simp only[a1t,h26,hO,h106,bS]))
    ·refine go 9 ?_;exact q_v (congrArg Value.bool (by simp only[a1t,h26,hO,h106,bS]))
theorem c8X (I:IMap) (e:Evt) (hs:SmE e) :
    FnI prog 260 #[.agg e.cells.toArray] I (fun u J=>RdS J u (a3N e)):=by
 refine enter func260 call260 rfl ntmps260 rfl fun w0=>?_;refine go 4 fun g1=>?_
 refine go 9 ?_;refine cV (b5i _ e hs) ?_;refine gC 4 (fun h3 p3=>?_) fun h3 p3=>?_
 ·refine go 9 ?_;exact q_i (by simp only[a3N,show a1t e=false by simpa using h3,if_true];exact RdS.nil')
 ·refine gC 8 (fun h7 p7=>?_) fun h7 p7=>?_
  ·refine go 6 ?_;refine o_v rfl (d4v rfl rfl) ?_;refine go 4 ?_;refine o_v rfl (d4u rfl rfl) ?_;refine go 2 fun v21=>?_
   refine a0i (l:=[d5S e.part e.into,d5Q e.part e.into]) rfl rfl (.cons rfl (.one rfl)) fun I21 j21 R21=>?_;refine go 7 ?_;exact q_i (by simp only[a3N,p3,p7,if_true,if_false,Bool.true_eq_false];exact R21)
  ·refine go 9 fun v24=>?_
   refine a0i (l:=[e.part]) rfl rfl (.one rfl) fun I24 j24 R24=>?_;refine go 5 ?_;exact q_i (by simp only[a3N,p3,p7,if_true,if_false,Bool.true_eq_false];exact R24)
theorem c6j (I:IMap) (e:Evt) :
    FnV prog 183 #[.agg e.cells.toArray] I (.bool (a5L e)):=by
 refine enter func183 call183 rfl ntmps183 rfl fun w0=>?_;refine go 4 fun g1=>?_
 refine gS 10 7 (fun h7 p7=>?_) fun h7 p7=>?_
 ·refine gS 6 13 (fun h13 p13=>?_) fun h13 p13=>?_
  ·refine gS 6 19 (fun h19 p19=>?_) fun h19 p19=>?_
   ·refine gS 6 25 (fun h25 p25=>?_) fun h25 p25=>?_
    ·refine gS 6 31 (fun h31 p31=>?_) fun h31 p31=>?_
     ·refine go 10 ?_;exact q_v (congrArg Value.bool (by simp only[a5L,h7,h13,h19,h25,h31,bS]))
     ·refine go 10 ?_;exact q_v (congrArg Value.bool (by simp only[a5L,h7,h13,h19,h25,h31,bS]))
    ·refine go 16 ?_;exact q_v (congrArg Value.bool (by simp only[a5L,h7,h13,h19,h25,bS]))
   ·refine go 22 ?_;exact q_v (congrArg Value.bool (by simp only[a5L,h7,h13,h19,bS]))
  ·refine go 28 ?_;exact q_v (congrArg Value.bool (by simp only[a5L,h7,h13,bS]))
 ·refine go 34 ?_;exact q_v (congrArg Value.bool (by simp only[a5L,h7,bS]))
theorem d0B (I:IMap) (v:Value) (l:List Evt) (hv:RdS I v l) (n:Int) :
    FnV prog 96 #[v,.int .i64 n] I (.bool (c4D l n)):=by
 obtain⟨A,c0,rfl,hA,hc,hm⟩:=hv;refine enter func96 call96 rfl ntmps96 rfl fun w0=>?_;refine go 12 ?_
 refine a0x (α:=Nat) 0 (fun i=>I)
  (fun i=>[(0,.slice A l.length c0),(1,.int .i64 n),(5,.int .i64 (i:Int))])
  (fun i=>[])
  (fun i=>i≤l.length∧a3A (fun _ e=>a5L e) l i=true)
  (fun i=>l.length-i) ⟨Nat.zero_le _,rfl⟩ rfl sb rfl ?_
 intro i ⟨hi,hn⟩;refine gS 8 10 (fun h10 p10=>?_) fun h10 p10=>?_
 ·have hlt:i<l.length:=oM;refine gC 6 (fun h14 p14=>?_) fun h14 p14=>?_
  ·have hlt:i<l.length:=oM;refine go 8 ?_;obtain⟨b19,o19,w19,e19,c19,r19⟩:=RdA.at_ hA (i:=i) hlt;obtain rfl:=r19;refine go 3 ?_;refine cV (c6j _ _) ?_;refine gC 3 (fun h22 p22=>?_) fun h22 p22=>?_
   ·refine go 12 ?_;exact q_v (congrArg Value.bool (by simp only[c4D,a1b (f:=fun _ e=>a5L e) hlt (by simpa using h22),bS]))
   ·refine go 9 ?_;exact a0w (i+1) ⟨oM,a1l hn hlt (by simpa using h22)⟩ oM rfl sb rfl
  ·refine go 16 ?_;exact q_v (congrArg Value.bool (by rw[c4D,show decide (((l.length:Nat):Int)≤n)=false from decide_eq_false oM];simp))
 ·refine go 23 ?_;have e:i=l.length:=oM;subst e;exact q_v (congrArg Value.bool (by simp only[c4D,hn,bS]))
end Go.Proofs.YtgmkjpafapgccaaGreat
namespace Go.Proofs.YtgmkjpafapgccaaGreat
open Go Go.Sx Tryz
set_option linter.all false
set_option maxRecDepth 20000
set_option maxHeartbeats 4000000
instance:Has (a1W prog 130) ([.int .i64 0,.int .i64 0,.string ⟨#[]⟩,.string ⟨#[]⟩,.string ⟨#[]⟩,.string ⟨#[]⟩,.string ⟨#[]⟩,.string ⟨#[]⟩,.int .i64 0,.int .i64 0,.int .i64 0,.int .i64 0,.int .i64 0,.int .i64 0],14,160):=hk
instance:Has (a1W prog 234) ([.string ⟨#[]⟩,.string ⟨#[]⟩],2,32):=hk
instance:Has (a1W prog 85) ([.string ⟨#[]⟩,.string ⟨#[]⟩,.string ⟨#[]⟩,.string ⟨#[]⟩,.int .i64 0,.int .i64 0,.bool false,.slice none 0 0,.int .i64 0,.int .i64 0,.int .i64 0,.int .i64 0,.int .i64 0,.int .i64 0],14,160):=hk
instance:Has (a6q prog 79) (234,2):=hk
instance:Has (a1g prog 165 0) (0,false,1):=hk
instance:Has (a1g prog 165 1) (1,false,1):=hk
instance:Has (a1g prog 234 0) (0,false,1):=hk
instance:Has (a1g prog 234 1) (1,false,1):=hk
instance:Has (a1g prog 62 0) (0,false,1):=hk
instance:Has (a1g prog 83 0) (0,true,2):=hk
instance:Has (a1g prog 83 1) (2,true,2):=hk
instance:Has (a1g prog 83 2) (4,true,2):=hk
instance:Has (a1g prog 85 0) (0,false,1):=hk
instance:Has (a1g prog 85 1) (1,false,1):=hk
instance:Has (a1g prog 85 2) (2,false,1):=hk
instance:Has (a1g prog 85 3) (3,false,1):=hk
instance:Has (a1g prog 85 4) (4,false,1):=hk
instance:Has (a1g prog 85 5) (5,false,1):=hk
instance:Has (a1g prog 85 6) (6,false,1):=hk
instance:Has (a1g prog 85 7) (7,false,1):=hk
instance:Has (a1g prog 85 8) (8,true,6):=hk
instance:Has (plK prog 165) [(0,1),(1,1)]:=hk
instance:Has (plK prog 314) [(0,1),(1,1)]:=hk
instance:Has (plK prog 85) [(0,1),(1,1),(2,1),(3,1),(4,1),(5,1),(6,1),(7,1),(8,6)]:=hk
theorem T.sp_314:a8S prog 314=true:=by kernel_rfl
instance:Has (tyK prog 163) (false,1):=hk
instance:Has (tyK prog 165) (true,2):=hk
instance:Has (tyK prog 225) (false,1):=hk
instance:Has (tyK prog 234) (true,2):=hk
instance:Has (tyK prog 235) (false,1):=hk
instance:Has (tyK prog 314) (true,2):=hk
instance:Has (tyK prog 60) (false,1):=hk
instance:Has (tyK prog 62) (true,1):=hk
instance:Has (tyK prog 79) (false,1):=hk
instance:Has (tyK prog 81) (true,2):=hk
instance:Has (prog.underlying 163) (.map 9 3):=hk
instance:Has (prog.underlying 274) (.int .u64):=hk
instance:Has (prog.underlying 311) (.map 314 4):=hk
instance T.und_4:Has (prog.underlying 4) (.bool):=hk
instance:Has (prog.underlying 79) (.slice 234):=hk
instance:Has (a1i prog 165) [.slice none 0 0,.map none]:=hk
instance:Has (a1i prog 234) [.string ⟨#[]⟩,.string ⟨#[]⟩]:=hk
instance:Has (a1i prog 314) [.string ⟨#[]⟩,.string ⟨#[]⟩]:=hk
instance:Has (a1i prog 85) [.string ⟨#[]⟩,.string ⟨#[]⟩,.string ⟨#[]⟩,.string ⟨#[]⟩,.int .i64 0,.int .i64 0,.bool false,.slice none 0 0,.int .i64 0,.int .i64 0,.int .i64 0,.int .i64 0,.int .i64 0,.int .i64 0]:=hk
instance:Has (zvK prog 3) (.int .i64 0):=hk
theorem d4L (I:IMap) (v:Value) (l:List Part) (hv:RdS I v l) :
    FnX prog 77 #[.agg #[v]] I [] (fun u r=>∃g kvs,u = .agg #[v,.map (some g)]∧r = .mp g (a1u Value.string kvs)∧Ix kvs l∧(kvs.map Prod.fst).Nodup):=by
 have hv0:=hv;obtain⟨A,c0,rfl,hA,hc,hm⟩:=hv;refine enter func77 call77 rfl ntmps77 rfl fun w0=>?_;refine go 4 fun g1=>?_
 refine go 2 fun g2=>?_
 refine go 7 ?_;refine a4W (Value.string) he rfl fun r10=>?_;refine go 3 fun g3=>?_
 refine go 14 ?_;refine a0u ?_;refine a0u ?_;refine a0d ?_;refine a0u ?_
 refine a0L ((0:Nat)) ([]) (fun i kvs=>I)
  (fun i kvs=>[(1,.pointer (some ⟨g1,0,none⟩)),(2,.pointer (some ⟨g2,0,none⟩)),(3,.pointer (some ⟨g3,0,none⟩)),(13,.slice A l.length c0),(14,.int .i64 (l.length:Int)),(15,.int .i64 (i:Int))])
  (fun i kvs=>[.mp r10 (a1u Value.string kvs),.blk g3 165 [.slice A l.length c0,.map (some r10)],.blk g2 165 [.slice none 0 0,.map none],.blk g1 62 [.slice A l.length c0]])
  (fun i kvs=>i≤l.length∧Ix kvs (l.take i)∧(kvs.map Prod.fst).Nodup)
  (fun i kvs=>l.length-i) ⟨Nat.zero_le _,Ix.nil,List.nodup_nil⟩ rfl sb rfl ?_
 intro i kvs ⟨hi,hx,hnd⟩;refine gC 6 (fun h16 p16=>?_) fun h16 p16=>?_
 ·have hlt:i<l.length:=oM;refine go 7 ?_;obtain⟨b18,o18,w18,e18,c18,r18⟩:=RdA.at_ hA (i:=i) hlt;obtain⟨q18,rfl,B18,d18,rfl,hB18,hd18,hm18⟩:=r18;refine go 4 fun g5=>?_
  refine go 11 ?_;refine o_v rfl (a8t m1 (a0y he) he he (l[i].name) rfl rfl rfl rfl) ?_;refine gC 13 (fun h29 p29=>?_) fun h29 p29=>?_
  ·refine go 7 ?_;refine a0b ?_;refine a2i (_) (a0y he) he (l[i].name) rfl rfl rfl (rfl) ?_;refine go 8 ?_;refine a0b ?_;refine a0a ?_;exact a0n (i+1) (_) ⟨oM,by rw[←a0c hlt];exact hx.put (by rw[List.length_take];omega) (by simpa using h29),b8U hnd⟩ oM rfl sb rfl
  ·refine go 8 ?_;refine a0a ?_;exact a0n (i+1) (_) ⟨oM,by rw[←a0c hlt];exact hx.skip (by simpa using h29),hnd⟩ oM rfl sb rfl
 ·refine go 9 ?_;refine a0d ?_;refine go 5 ?_;refine a0a ?_;refine a0b ?_;refine a0a ?_;refine a0b ?_;refine a0a ?_;have e:i=l.length:=oM;subst e;rw[List.take_length]at hx
  exact q_x ⟨_,_,rfl,rfl,hx,hnd⟩
theorem c4M (I:IMap) (v:Value) (l:List Part) (hv:RdS I v l) (r:Nat) (kvs:List (ByteArray×Value)) (hx:Ix kvs l) (s:ByteArray) :
    FnK prog 127 #[.agg #[v,.map (some r)],.string s] I (.mp r (a1u Value.string kvs)) (PartIs I (a0f l s)):=by
 obtain⟨z,b,hz,hb,hfs,hfn⟩:=hx.look s;obtain⟨A,c0,rfl,hA,hc,hm⟩:=hv;refine enter func127 call127 rfl ntmps127 rfl fun w0=>?_;refine go 4 fun g2=>?_
 refine go 2 fun g4=>?_
 refine go 8 ?_;refine o_v rfl (a8t m2 (a0y he) he he (s) rfl rfl hz hb) ?_;refine gC 14 (fun h16 p16=>?_) fun h16 p16=>?_
 ·have hN:=hfn (by simpa using h16);refine go 11 ?_;refine a0a ?_;refine a0a ?_;exact q_k (PartIs.none hN)
 ·obtain⟨i,hi,rfl,hF⟩:=hfs (by simpa using h16);refine go 7 ?_;obtain⟨b21,o21,w21,e21,c21,r21⟩:=RdA.at_ hA (i:=i) hi;obtain⟨q21,rfl,B21,d21,rfl,hB21,hd21,hm21⟩:=r21;refine o_v rfl (a0m he rfl rfl e21 (i) rfl hi) ?_;refine go 8 ?_;refine a0a ?_;refine a0a ?_;exact q_k (PartIs.of hF ⟨_,rfl,B21,d21,rfl,hB21,hd21,hm21⟩)
theorem b4i (I:IMap) (v:Value) (l:List Part) (hv:RdS I v l) (f:FuncId) (nm:Part→ByteArray) (hp:∀x vs,Enc.rd I vs x→FnV prog f #[.agg vs.toArray] I (.string (nm x))) :
    FnV prog 203 #[v,.func (.func f) #[] #[]] I (.bool (c1Y nm l)):=by
 obtain⟨A,c0,rfl,hA,hc,hm⟩:=hv;refine enter func203 call203 rfl ntmps203 rfl fun w0=>?_;refine go 12 ?_
 refine a0x (α:=Nat) 1 (fun i=>I)
  (fun i=>[(0,.slice A l.length c0),(1,.func (.func f) #[] #[]),(5,.int .i64 (i:Int))])
  (fun i=>[])
  (fun i=>1≤i∧(i≤l.length∨i=1)∧a3A (a9Y nm) l i=true)
  (fun i=>l.length-i) ⟨oM,.inr rfl,b4h (nm:=nm) l⟩ rfl sb rfl ?_
 intro i ⟨h1,hi,hn⟩;refine gC 9 (fun h9 p9=>?_) fun h9 p9=>?_
 ·have hlt:i<l.length:=oM;refine go 6 ?_;refine dG 0 4 ?_;obtain⟨b16,o16,w16,e16,c16,r16⟩:=RdA.at_ hA (i:=i-1) oM;refine a0I 4 rfl rfl (by kernel_rfl) rfl .slnil rfl (a0m he rfl rfl e16 (i-1) oM oM) ?_;refine a0I 5 rfl rfl (by kernel_rfl) rfl .slnil rfl (a0V he rfl c16 (Enc.len r16)) ?_;refine dG 7 3 ?_;obtain⟨b22,o22,w22,e22,c22,r22⟩:=RdA.at_ hA (i:=i) hlt;refine dG 10 1 ?_;refine a0I 11 rfl rfl (by kernel_rfl) rfl .slnil rfl (a0V he rfl c22 (Enc.len r22)) ?_;refine dH 6 0 ?_;refine cV (hp _ _ r16) ?_;refine dH 12 0 ?_;refine cV (hp _ _ r22) ?_;refine dG 13 1 ?_;refine gC 2 (fun h25 p25=>?_) fun h25 p25=>?_
  ·refine go 12 ?_;exact q_v (congrArg Value.bool (c1Z h1 hlt (by simpa using h25)).symm)
  ·refine go 9 ?_;exact a0w (i+1) ⟨oM,.inl oM,b7B h1 hlt hn (by simpa using h25)⟩ oM rfl sb rfl
 ·refine go 12 ?_;exact q_v (congrArg Value.bool (show c1Y nm l=true from b9R oM hn).symm)
theorem b5T (I:IMap) (v:Value) (l:List Prp) (hv:RdS I v l) (f:FuncId) (nm:Prp→ByteArray) (hp:∀x vs,Enc.rd I vs x→FnV prog f #[.agg vs.toArray] I (.string (nm x))) :
    FnV prog 271 #[v,.func (.func f) #[] #[]] I (.bool (c1Y nm l)):=by
 obtain⟨A,c0,rfl,hA,hc,hm⟩:=hv;refine enter func271 call271 rfl ntmps271 rfl fun w0=>?_;refine go 12 ?_
 refine a0x (α:=Nat) 1 (fun i=>I)
  (fun i=>[(0,.slice A l.length c0),(1,.func (.func f) #[] #[]),(5,.int .i64 (i:Int))])
  (fun i=>[])
  (fun i=>1≤i∧(i≤l.length∨i=1)∧a3A (a9Y nm) l i=true)
  (fun i=>l.length-i) ⟨oM,.inr rfl,b4h (nm:=nm) l⟩ rfl sb rfl ?_
 intro i ⟨h1,hi,hn⟩;refine gC 9 (fun h9 p9=>?_) fun h9 p9=>?_
 ·have hlt:i<l.length:=oM;refine go 6 ?_;refine dG 0 4 ?_;obtain⟨b16,o16,w16,e16,c16,r16⟩:=RdA.at_ hA (i:=i-1) oM;refine a0I 4 rfl rfl (by kernel_rfl) rfl .slnil rfl (a0m he rfl rfl e16 (i-1) oM oM) ?_;refine a0I 5 rfl rfl (by kernel_rfl) rfl .slnil rfl (a0V he rfl c16 (Enc.len r16)) ?_;refine dG 7 3 ?_;obtain⟨b22,o22,w22,e22,c22,r22⟩:=RdA.at_ hA (i:=i) hlt;refine dG 10 1 ?_;refine a0I 11 rfl rfl (by kernel_rfl) rfl .slnil rfl (a0V he rfl c22 (Enc.len r22)) ?_;refine dH 6 0 ?_;refine cV (hp _ _ r16) ?_;refine dH 12 0 ?_;refine cV (hp _ _ r22) ?_;refine dG 13 1 ?_;refine gC 2 (fun h25 p25=>?_) fun h25 p25=>?_
  ·refine go 12 ?_;exact q_v (congrArg Value.bool (c1Z h1 hlt (by simpa using h25)).symm)
  ·refine go 9 ?_;exact a0w (i+1) ⟨oM,.inl oM,b7B h1 hlt hn (by simpa using h25)⟩ oM rfl sb rfl
 ·refine go 12 ?_;exact q_v (congrArg Value.bool (show c1Y nm l=true from b9R oM hn).symm)
theorem c2z (I:IMap) (x:Ivl) :
    FnV prog 269 #[.agg x.cells.toArray] I (.bool (a2R x)):=by
 refine enter func269 call269 rfl ntmps269 rfl fun w0=>?_;refine go 4 fun g1=>?_
 refine gS 9 6 (fun h6 p6=>?_) fun h6 p6=>?_
 ·refine gS 7 13 (fun h13 p13=>?_) fun h13 p13=>?_
  ·refine go 9 ?_;exact q_v (congrArg Value.bool (by simp only[a2R,h6,h13,bS]))
  ·refine go 9 ?_;exact q_v (congrArg Value.bool (by simp only[a2R,h6,h13,bS]))
 ·refine go 16 ?_;exact q_v (congrArg Value.bool (by simp only[a2R,h6,bS]))
theorem d3R (I:IMap) (x:Prp) (hs:Sm x.key) :
    FnV prog 270 #[.agg x.cells.toArray] I (.bool (a6t x)):=by
 refine enter func270 call270 rfl ntmps270 rfl fun w0=>?_;refine go 4 fun g1=>?_
 refine go 8 ?_;refine cV (a3n _ _ hs) ?_;refine gS 1 6 (fun h6 p6=>?_) fun h6 p6=>?_
 ·refine gS 5 11 (fun h11 p11=>?_) fun h11 p11=>?_
  ·refine go 10 ?_;exact q_v (congrArg Value.bool (by simp only[a6t,h6,h11,bS]))
  ·refine go 10 ?_;exact q_v (congrArg Value.bool (by simp only[a6t,h6,h11,bS]))
 ·refine go 15 ?_;exact q_v (congrArg Value.bool (by simp only[a6t,h6,bS]))
theorem d3S (I:IMap) (x:Prp) (vs:List Value) (h:Enc.rd I vs x) :
    FnV prog 272 #[.agg vs.toArray] I (.string x.key):=by
 obtain rfl:=h;refine enter func272 call272 rfl ntmps272 rfl fun w0=>?_;refine go 4 fun g1=>?_
 refine go 12 ?_;exact q_v rfl
theorem d4y (I:IMap) (x:Part) (vs:List Value) (h:Enc.rd I vs x) :
    FnV prog 204 #[.agg vs.toArray] I (.string x.name):=by
 obtain⟨q,rfl,B,d,rfl,hB,hd,hm⟩:=h;refine enter func204 call204 rfl ntmps204 rfl fun w0=>?_;refine go 4 fun g1=>?_
 refine go 12 ?_;exact q_v rfl
theorem c8i (I:IMap) (x:Part) (vs:List Value) (h:Enc.rd I vs x) :
    FnV prog 125 #[.agg vs.toArray] I (.string x.name):=by
 obtain⟨q,rfl,B,d,rfl,hB,hd,hm⟩:=h;refine enter func125 call125 rfl ntmps125 rfl fun w0=>?_;refine go 4 fun g1=>?_
 refine go 12 ?_;exact q_v rfl
theorem d1P (I:IMap) (x:Prp) (vs:List Value) (h:Enc.rd I vs x) :
    FnV prog 133 #[.agg vs.toArray] I (.string x.key):=by
 obtain rfl:=h;refine enter func133 call133 rfl ntmps133 rfl fun w0=>?_;refine go 4 fun g1=>?_
 refine go 12 ?_;exact q_v rfl
theorem c9f (I:IMap) (v:Value) (l:List Kind) (hv:RdS I v l) (p:Part) (D:Option Addr) (d:Nat) (hD:RdS I (.slice D p.props.length d) p.props) (hs:SmP p) :
    FnV prog 205 #[.agg #[v],.agg (p.cells (.slice D p.props.length d)).toArray] I (.bool (a5q l p)):=by
 have hDA:RdA I D p.props:=(by obtain⟨_,_,e,h,_⟩:=hD;cases e;exact h);have hDl:p.props.length≤d∧d≤9223372036854775807:=(by obtain⟨_,_,e,h,h1,h2⟩:=hD;cases e;exact⟨h1,h2⟩);refine enter func205 call205 rfl ntmps205 rfl fun w0=>?_;refine go 4 fun g2=>?_
 refine go 2 fun g3=>?_
 refine go 20 ?_;refine a1n (a9q I _ l hv p.kind) rfl rfl fun v15 q15=>?_;obtain⟨vs,rfl,ss,rfl,hsl⟩:=q15;refine go 5 fun g7=>?_
 refine go 1 ?_;refine a0Q _ he rfl rfl rfl rfl rfl (by simp[Kind.cells,hsl.one];exact⟨rfl,rfl⟩) ?_;refine go 4 ?_;refine a1N (I':=I) (L':=[(2,.pointer (some ⟨g2,0,none⟩)),(3,.pointer (some ⟨g3,0,none⟩)),(5,.func (.func 269) #[] #[]),(6,.func (.func 270) #[] #[]),(48,.bool (a4N l p))]) (H':=[.blk g3 85 (p.cells (.slice D p.props.length d)),.blk g2 24 [v]]) ?_ ?_
 ·refine gS 4 20 (fun h20 p20=>?_) fun h20 p20=>?_
  ·refine go 30 ?_;refine a0a ?_;exact a0o ⟨rfl,rfl,rfl,rfl,(bB (by simp only[a4N,h20,bS])),trivial⟩ rfl rfl
  ·refine go 3 ?_;refine a0q rfl rfl h20 (a0v (a3n _ _ hs.1) rfl rfl ?_);refine gS 3 26 (fun h26 p26=>?_) fun h26 p26=>?_
   ·refine go 24 ?_;refine a0a ?_;exact a0o ⟨rfl,rfl,rfl,rfl,(bB (by simp only[a4N,h20,h26,bS])),trivial⟩ rfl rfl
   ·refine gS 5 31 (fun h31 p31=>?_) fun h31 p31=>?_
    ·refine go 19 ?_;refine a0a ?_;exact a0o ⟨rfl,rfl,rfl,rfl,(bB (by simp only[a4N,h20,h26,h31,bS])),trivial⟩ rfl rfl
    ·refine gS 7 38 (fun h38 p38=>?_) fun h38 p38=>?_
     ·refine go 12 ?_;refine a0a ?_;exact a0o ⟨rfl,rfl,rfl,rfl,(bB (by simp only[a4N,h20,h26,h31,h38,bS])),trivial⟩ rfl rfl
     ·refine gS 5 43 (fun h43 p43=>?_) fun h43 p43=>?_
      ·refine go 7 ?_;refine a0a ?_;exact a0o ⟨rfl,rfl,rfl,rfl,(bB (by simp only[a4N,h20,h26,h31,h38,h43,bS])),trivial⟩ rfl rfl
      ·refine go 7 ?_;refine a0a ?_;exact a0o ⟨rfl,rfl,rfl,rfl,(bB (by simp only[a4N,h20,h26,h31,h38,h43,bS])),trivial⟩ rfl rfl
 ·refine gC 0 (fun h48 p48=>?_) fun h48 p48=>?_
  ·refine go 8 ?_;exact q_v (congrArg Value.bool (by simp only[a5q,h48];rfl))
  ·refine go 12 ?_
   refine a0x (α:=Nat) 0 (fun i=>I)
    (fun i=>[(2,.pointer (some ⟨g2,0,none⟩)),(3,.pointer (some ⟨g3,0,none⟩)),(5,.func (.func 269) #[] #[]),(6,.func (.func 270) #[] #[]),(50,.slice D p.props.length d),(51,.int .i64 (p.props.length:Int)),(52,.int .i64 (i:Int))])
    (fun i=>[.blk g3 85 (p.cells (.slice D p.props.length d)),.blk g2 24 [v]])
    (fun i=>i≤p.props.length∧a3A (fun _ q=>a6t q) p.props i=true)
    (fun i=>p.props.length-i) ⟨Nat.zero_le _,rfl⟩ rfl sb rfl ?_
   intro i ⟨hi,hn⟩;refine gC 6 (fun h53 p53=>?_) fun h53 p53=>?_
   ·have hlt:i<p.props.length:=oM;refine go 6 ?_;obtain⟨b54,o54,w54,e54,c54,r54⟩:=RdA.at_ hDA (i:=i) hlt;obtain rfl:=r54;refine go 4 fun g10=>?_
    refine go 9 ?_;refine cV (d3R _ p.props[i] (hs.2 _ (List.getElem_mem hlt))) ?_;refine gC 3 (fun h59 p59=>?_) fun h59 p59=>?_
    ·refine go 12 ?_;exact q_v (congrArg Value.bool (by simp only[a5q,h48,a1b (f:=fun _ q=>a6t q) hlt (by simpa using h59),bS]))
    ·refine go 8 ?_;refine a0a ?_;exact a0w (i+1) ⟨oM,a1l hn hlt (by simpa using h59)⟩ oM rfl sb rfl
   ·have hAll:a3A (fun _ q=>a6t q) p.props p.props.length=true:=(show i=p.props.length from oM)▸hn;refine go 10 ?_;refine cV (b5T _ _ p.props hD _ Prp.key (fun x vs hr=>d3S _ x vs hr)) ?_;refine gS 1 64 (fun h64 p64=>?_) fun h64 p64=>?_
    ·refine go 3 ?_;refine a0A (a0q rfl rfl h64 (a0t rfl (a1L (p.life.km.cells) m0 he rfl rfl rfl) ?_));refine go 1 ?_;refine a0q rfl rfl h64 (a0v (c2z _ p.life.km) rfl rfl ?_);refine gS 2 71 (fun h71 p71=>?_) fun h71 p71=>?_
     ·refine go 3 ?_;refine a0A (a0q rfl rfl h71 (a0t rfl (a1L (p.life.cycles.cells) m0 he rfl rfl rfl) ?_));refine go 1 ?_;refine a0q rfl rfl h71 (a0v (c2z _ p.life.cycles) rfl rfl ?_);refine gS 2 78 (fun h78 p78=>?_) fun h78 p78=>?_
      ·refine go 3 ?_;refine a0A (a0q rfl rfl h78 (a0t rfl (a1L (p.life.damage.cells) m0 he rfl rfl rfl) ?_));refine go 1 ?_;refine a0q rfl rfl h78 (a0v (c2z _ p.life.damage) rfl rfl ?_);refine go 6 ?_;exact q_v (congrArg Value.bool (by simp only[a5q,h48,hAll,h53,h64,h71,h78,bS]))
      ·refine go 11 ?_;exact q_v (congrArg Value.bool (by simp only[a5q,h48,hAll,h53,h64,h71,h78,bS]))
     ·refine go 18 ?_;exact q_v (congrArg Value.bool (by simp only[a5q,h48,hAll,h53,h64,h71,bS]))
    ·refine go 25 ?_;exact q_v (congrArg Value.bool (by simp only[a5q,h48,hAll,h53,h64,bS]))
theorem b6M (p q:ByteArray×ByteArray):eqV prog 9 314 (b1d p) (b1d q)=some (decide (p=q)):=by
 have e:eqV prog 9 314 (b1d p) (b1d q)=some (decide (p.1=q.1)&&(decide (p.2=q.2)&&true)):=by kernel_rfl
 rw[e];obtain⟨a,b⟩:=p;obtain⟨c,d⟩:=q
 simp
theorem c9g (I:IMap) (vc:Value) (c:List Kind) (hvc:RdS I vc c) (hsc:SmC c) (v:Value) (l:List Part) (hv:RdS I v l) (hsf:SmF l) :
    FnV prog 122 #[.agg #[vc],.agg #[v]] I (.bool (a4E c l)):=by
 have hv0:=hv;obtain⟨A,c0,rfl,hA,hc,hm⟩:=hv;refine enter func122 call122 rfl ntmps122 rfl fun w0=>?_;refine go 4 fun g2=>?_
 refine go 2 fun g3=>?_
 refine go 5 ?_;refine a1N (I':=I) (L':=[(2,.pointer (some ⟨g2,0,none⟩)),(3,.pointer (some ⟨g3,0,none⟩)),(26,.bool (b8l c l))]) (H':=[.blk g3 62 [.slice A l.length c0],.blk g2 24 [vc]]) ?_ ?_
 ·refine go 3 ?_;refine cV (a6N _ _ c hvc hsc) ?_;refine gS 2 15 (fun h15 p15=>?_) fun h15 p15=>?_
  ·refine go 13 ?_;exact a0o ⟨rfl,rfl,(bB (by simp only[b8l,h15,bS])),trivial⟩ rfl rfl
  ·refine gS 6 21 (fun h21 p21=>?_) fun h21 p21=>?_
   ·refine go 7 ?_;exact a0o ⟨rfl,rfl,(bB (by simp only[b8l,h15,h21,bS])),trivial⟩ rfl rfl
   ·refine go 3 ?_;refine a0q rfl rfl h21 (a0v (b4i _ _ l hv0 _ Part.name (fun x vs hr=>d4y _ x vs hr)) rfl rfl ?_);refine go 4 ?_;exact a0o ⟨rfl,rfl,(bB (by simp only[b8l,h15,h21,bS])),trivial⟩ rfl rfl
 ·refine gC 0 (fun h26 p26=>?_) fun h26 p26=>?_
  ·refine go 8 ?_;exact q_v (congrArg Value.bool (by simp only[a4E,h26];rfl))
  ·refine go 6 ?_;refine a1F (d4L _ _ l hv0) rfl rfl fun v28 s28 q28=>?_;obtain⟨m28,kvs,rfl,rfl,hIx,_⟩:=q28;refine go 2 fun g5=>?_
   refine go 7 ?_;refine a4W (b1d) he rfl fun r29=>?_;refine go 13 ?_;refine a1A ?_;refine a1A ?_;refine a0u ?_;refine a1A ?_;refine a1A ?_
   refine a0x (α:=Nat) 0 (fun i=>I)
    (fun i=>[(2,.pointer (some ⟨g2,0,none⟩)),(3,.pointer (some ⟨g3,0,none⟩)),(5,.pointer (some ⟨g5,0,none⟩)),(6,.map (some r29)),(31,.slice A l.length c0),(32,.int .i64 (l.length:Int)),(33,.int .i64 (i:Int))])
    (fun i=>[.mp r29 (a1u b1d (a2x a4C (fun _=>.bool true) (a3W (l.take i)))),.mp m28 (a1u Value.string kvs),.blk g5 165 [.slice A l.length c0,.map (some m28)],.blk g3 62 [.slice A l.length c0],.blk g2 24 [vc]])
    (fun i=>i≤l.length∧a3A (a4b c l) l i=true)
    (fun i=>l.length-i) ⟨Nat.zero_le _,rfl⟩ rfl sb rfl ?_
   intro i ⟨hi,hn⟩;refine gC 6 (fun h34 p34=>?_) fun h34 p34=>?_
   ·have hlt:i<l.length:=oM;refine go 6 ?_;obtain⟨b35,o35,w35,e35,c35,r35⟩:=RdA.at_ hA (i:=i) hlt;obtain⟨q35,rfl,B35,d35,rfl,hB35,hd35,hm35⟩:=r35;refine go 4 fun g8=>?_
    refine go 6 ?_;refine a1N (I':=I) (L':=[(2,.pointer (some ⟨g2,0,none⟩)),(3,.pointer (some ⟨g3,0,none⟩)),(5,.pointer (some ⟨g5,0,none⟩)),(6,.map (some r29)),(31,.slice A l.length c0),(32,.int .i64 (l.length:Int)),(33,.int .i64 (i:Int)),(8,.pointer (some ⟨g8,0,none⟩)),(49,.bool (c0a c l[i]))]) (H':=[.blk g8 85 (l[i].cells (.slice B35 l[i].props.length d35)),.mp r29 (a1u b1d (a2x a4C (fun _=>.bool true) (a3W (l.take i)))),.mp m28 (a1u Value.string kvs),.blk g5 165 [.slice A l.length c0,.map (some m28)],.blk g3 62 [.slice A l.length c0],.blk g2 24 [vc]]) ?_ ?_
    ·refine go 4 ?_;refine cV (c9f _ _ c hvc l[i] B35 d35 ⟨_,_,rfl,hB35,hd35,hm35⟩ (hsf _ (List.getElem_mem hlt))) ?_;refine gS 2 41 (fun h41 p41=>?_) fun h41 p41=>?_
     ·refine go 10 ?_;exact a0o ⟨rfl,rfl,rfl,rfl,rfl,rfl,rfl,rfl,(bB (by simp only[c0a,h34,h41,bS])),trivial⟩ rfl rfl
     ·refine go 6 ?_;refine a0A (a0q rfl rfl h41 (a0t rfl (c3t he rfl rfl) ?_));refine go 3 ?_;exact a0o ⟨rfl,rfl,rfl,rfl,rfl,rfl,rfl,rfl,(bB (by simp only[c0a,h34,h41,bS])),trivial⟩ rfl rfl
    ·refine gC 0 (fun h49 p49=>?_) fun h49 p49=>?_
     ·refine go 13 ?_;exact q_v (congrArg Value.bool (by simp only[a4E,a1b hlt (show a4b c l (l.take i) l[i]=false by simp only[a4b,h49];rfl),bS]))
     ·refine gC 10 (fun h52 p52=>?_) fun h52 p52=>?_
      ·refine go 9 ?_;refine a0a ?_;exact a0w (i+1) ⟨oM,a1l hn hlt (by simp only[a4b,h49,h52,bS])⟩ oM rfl sb (by rw[b6k hlt p52])
      ·refine go 8 ?_;refine a0d ?_;refine a7V (c4M _ _ l hv0 m28 kvs hIx l[i].into) rfl rfl fun v57 q57=>?_;obtain⟨vs,rfl,s57,rfl,hs57⟩:=q57;refine go 5 fun g9=>?_
       refine go 1 ?_;refine a0Q _ he rfl rfl rfl rfl rfl (Enc.one (α:=Part) (I:=I) (x:=(a0f l l[i].into).getD zPart) ⟨s57,rfl,hs57⟩) ?_;refine go 12 fun g11=>?_
       refine go 6 ?_;refine a1N (I':=I) (L':=[(2,.pointer (some ⟨g2,0,none⟩)),(3,.pointer (some ⟨g3,0,none⟩)),(5,.pointer (some ⟨g5,0,none⟩)),(6,.map (some r29)),(31,.slice A l.length c0),(32,.int .i64 (l.length:Int)),(33,.int .i64 (i:Int)),(8,.pointer (some ⟨g8,0,none⟩)),(11,.pointer (some ⟨g11,0,none⟩)),(90,.bool (b3i c l (l.take i) l[i]))]) (H':=[.blk g11 314 [.string l[i].into,.string l[i].slot],.blk g8 85 (l[i].cells (.slice B35 l[i].props.length d35)),.mp r29 (a1u b1d (a2x a4C (fun _=>.bool true) (a3W (l.take i)))),.mp m28 (a1u Value.string kvs),.blk g5 165 [.slice A l.length c0,.map (some m28)],.blk g3 62 [.slice A l.length c0],.blk g2 24 [vc]]) ?_ ?_
       ·refine gS 4 67 (fun h67 p67=>?_) fun h67 p67=>?_
        ·refine go 25 ?_;refine a0b ?_;refine a0a ?_;refine a0S ?_;refine a0S ?_;refine a0S ?_;refine a1A ?_;refine a0S ?_;refine a0S ?_;refine a0S ?_;exact a0o ⟨rfl,rfl,rfl,rfl,rfl,rfl,rfl,rfl,rfl,(bB (by simp only[b3i,h49,h52,h67,bS])),trivial⟩ rfl rfl
        ·refine gS 4 71 (fun h71 p71=>?_) fun h71 p71=>?_
         ·refine go 21 ?_;refine a0b ?_;refine a0a ?_;refine a0S ?_;refine a0S ?_;refine a0S ?_;refine a1A ?_;refine a0S ?_;refine a0S ?_;refine a0S ?_;exact a0o ⟨rfl,rfl,rfl,rfl,rfl,rfl,rfl,rfl,rfl,(bB (by simp only[b3i,h49,h52,h67,h71,bS])),trivial⟩ rfl rfl
         ·refine gS 4 75 (fun h75 p75=>?_) fun h75 p75=>?_
          ·refine go 17 ?_;refine a0b ?_;refine a0a ?_;refine a0S ?_;refine a0S ?_;refine a0S ?_;refine a1A ?_;refine a0S ?_;refine a0S ?_;refine a0S ?_;exact a0o ⟨rfl,rfl,rfl,rfl,rfl,rfl,rfl,rfl,rfl,(bB (by simp only[b3i,h49,h52,h67,h71,h75,bS])),trivial⟩ rfl rfl
          ·refine go 2 ?_;refine a0A (a0q rfl rfl h75 (a0t rfl (b9E m4 (b7c T.sp_314 b6M) he he (a4C l[i]) rfl rfl (a8K a4C _ _)) ?_));refine gS 2 80 (fun h80 p80=>?_) fun h80 p80=>?_
           ·refine go 12 ?_;refine a0b ?_;refine a0a ?_;refine a0S ?_;refine a0S ?_;refine a0S ?_;refine a1A ?_;refine a0S ?_;refine a0S ?_;refine a0S ?_;exact a0o ⟨rfl,rfl,rfl,rfl,rfl,rfl,rfl,rfl,rfl,(bB (by simp only[b3i,h49,h52,h67,h71,h75,h80,bS])),trivial⟩ rfl rfl
           ·refine a0A (a0q rfl rfl h80 (a0t rfl (a3f m7 he rfl rfl) ?_));refine go 7 ?_;refine a0q rfl rfl h80 (a0v (b6B _ _ c hvc ((a0f l l[i].into).getD zPart).kind l[i].slot l[i].kind) rfl rfl ?_);refine go 4 ?_;refine a0b ?_;refine a0a ?_;refine a0S ?_;refine a0S ?_;refine a0S ?_;refine a1A ?_;refine a0S ?_;refine a0S ?_;refine a0S ?_;exact a0o ⟨rfl,rfl,rfl,rfl,rfl,rfl,rfl,rfl,rfl,(bB (by simp only[b3i,h49,h52,h67,h71,h75,h80,bS])),trivial⟩ rfl rfl
       ·refine gC 0 (fun h90 p90=>?_) fun h90 p90=>?_
        ·refine go 13 ?_;exact q_v (congrArg Value.bool (by simp only[a4E,a1b hlt (show a4b c l (l.take i) l[i]=false by simp only[a4b,h52,h90];simp),bS]))
        ·refine go 6 ?_;have h90n:hit a4C (a3W (l.take i)) (a4C l[i])=false:=by revert h90;simp only[b3i];cases hit a4C (a3W (l.take i)) (a4C l[i])<;>simp
         refine a0d ?_;refine a2i (a2x a4C (fun _=>.bool true) (a3W (l.take (i+1)))) (b7c T.sp_314 b6M) he (a4C l[i]) rfl rfl rfl ((a9K a4C (fun _=>.bool true) (a3W (l.take i)) l[i] (a6Z h90n)).trans (by rw[b4C hlt p52])) ?_;refine go 8 ?_;refine a0b ?_;refine a0a ?_;refine a0b ?_;refine a0a ?_;exact a0w (i+1) ⟨oM,a1l hn hlt (by simp only[a4b,h49,h90,bS])⟩ oM rfl sb rfl
   ·refine go 12 ?_;have e:i=l.length:=oM;subst e;exact q_v (congrArg Value.bool (by simp only[a4E,h26,hn,bS]))
theorem b3l (I:IMap) (v:Value) (l:List Part) (hv:RdS I v l) (hl:l.length≤1000000) (s:ByteArray) (f:FuncId) (cs:List Value) (nm:Part→ByteArray) (hp:∀x vs,Enc.rd I vs x→FnV prog f ([Value.agg vs.toArray,Value.string s]++cs).toArray I (.int .i64 (a8G (nm x) s))) (hs:Srt nm l) :
    FnV prog 206 #[v,.string s,.func (.func f) #[] cs.toArray] I (.tuple #[.int .i64 (a6c nm l s:Nat),.bool (atF nm l s)]):=by
 obtain⟨A,c0,rfl,hA,hc,hm⟩:=hv;refine enter func206 call206 rfl ntmps206 rfl fun w0=>?_;refine go 22 ?_
 refine a0L ((0:Nat)) (l.length) (fun i j=>I)
  (fun i j=>[(0,.slice A l.length c0),(1,.string s),(2,.func (.func f) #[] cs.toArray),(8,.int .i64 (l.length:Int)),(9,.int .i64 (i:Int)),(10,.int .i64 (j:Int))])
  (fun i j=>[])
  (fun i j=>i≤j∧j≤l.length∧(∀q x,q<i→l[q]? = some x→sLt (nm x) s=true)∧(∀q x,j≤q→l[q]? = some x→sLt (nm x) s=false))
  (fun i j=>j-i) ⟨Nat.zero_le _,Nat.le_refl _,fun q x h=>absurd h (Nat.not_lt_zero q),fun q x h hx=>by rw[List.getElem?_eq_none h]at hx;cases hx⟩ rfl sb rfl ?_
 intro i j ⟨hij,hj,hlo,hhi⟩;refine gC 8 (fun h17 p17=>?_) fun h17 p17=>?_
 ·have hlt:(i+j) / 2<l.length:=oM;refine go 8 ?_;refine o_v rfl (a1K he he rfl (m:=(i:Int)+(j:Int)) (wrap_u64 _ oM oM)) ?_;refine o_v rfl (a6w rfl (by decide)) ?_;refine o_v rfl (a1K he he rfl (m:=(((i+j) / 2:Nat):Int)) (by rw[IntKind.wrap_i64];omega)) ?_;refine go 8 ?_;obtain⟨b27,o27,w27,e27,c27,r27⟩:=RdA.at_ hA (i:=(i+j) / 2) hlt;refine o_v rfl (a0m he rfl rfl e27 ((i+j) / 2) oM hlt) ?_;refine o_v rfl (a0V he rfl c27 (Enc.len r27)) ?_;refine go 2 ?_;refine cV (hp _ _ r27) ?_;refine gC 3 (fun h31 p31=>?_) fun h31 p31=>?_
  ·refine go 7 ?_;exact a0n ((i+j) / 2+1) (j) ⟨oM,hj,d1Y hs hlt (a5R.1 p31),hhi⟩ oM rfl sb rfl
  ·refine go 6 ?_;exact a0n (i) ((i+j) / 2) ⟨oM,oM,hlo,d1X hs hlt (by simpa[a5R]using p31)⟩ oM rfl sb rfl
 ·have hpos:a6c nm l s=i:=b7F oM hlo (fun q x hq hx=>hhi q x oM hx);refine gS 12 39 (fun h39 p39=>?_) fun h39 p39=>?_
  ·have hlt:i<l.length:=oM;refine go 3 ?_;obtain⟨b43,o43,w43,e43,c43,r43⟩:=RdA.at_ hA (i:=i) hlt;refine go 1 ?_;refine a0A (a0q rfl rfl h39 (a0t rfl (a0V he rfl c43 (Enc.len r43)) ?_));refine go 2 ?_;refine a0q rfl rfl h39 (a0v (hp _ _ r43) rfl rfl ?_);refine go 8 ?_;exact q_v (by rw[hpos,d1U hpos hlt];simp only[a6Q])
  ·refine go 15 ?_;exact q_v (by rw[hpos,c8l hpos oM])
theorem c2q (I:IMap) (x:Part) (vs:List Value) (h:Enc.rd I vs x) (s:ByteArray) (f:FuncId) (nm:Part→ByteArray) (hp:FnV prog f #[.agg vs.toArray] I (.string (nm x))) (g:Nat) (hg:ICells I g 0 [.func (.func f) #[] #[]]) :
    FnV prog 207 #[.agg vs.toArray,.string s,.pointer (some ⟨g,0,none⟩)] I (.int .i64 (a8G (nm x) s)):=by
 have hl:=Enc.len h;refine enter func207 call207 rfl ntmps207 rfl fun w0=>?_;refine go 4 fun g3=>?_
 refine go 5 ?_;refine o_v rfl (a0H he rfl (hg 0 _ rfl)) ?_;refine o_v rfl (a3f m0 he rfl hl) ?_;refine go 1 ?_;refine cV (hp) ?_;refine go 2 ?_;refine cV (a3x _ _ _) ?_;refine go 5 ?_;exact q_v rfl
theorem b4Y (I:IMap) (v:Value) (l:List Prp) (hv:RdS I v l) (hl:l.length≤1000000) (s:ByteArray) (f:FuncId) (cs:List Value) (nm:Prp→ByteArray) (hp:∀x vs,Enc.rd I vs x→FnV prog f ([Value.agg vs.toArray,Value.string s]++cs).toArray I (.int .i64 (a8G (nm x) s))) (hs:Srt nm l) :
    FnV prog 210 #[v,.string s,.func (.func f) #[] cs.toArray] I (.tuple #[.int .i64 (a6c nm l s:Nat),.bool (atF nm l s)]):=by
 obtain⟨A,c0,rfl,hA,hc,hm⟩:=hv;refine enter func210 call210 rfl ntmps210 rfl fun w0=>?_;refine go 22 ?_
 refine a0L ((0:Nat)) (l.length) (fun i j=>I)
  (fun i j=>[(0,.slice A l.length c0),(1,.string s),(2,.func (.func f) #[] cs.toArray),(8,.int .i64 (l.length:Int)),(9,.int .i64 (i:Int)),(10,.int .i64 (j:Int))])
  (fun i j=>[])
  (fun i j=>i≤j∧j≤l.length∧(∀q x,q<i→l[q]? = some x→sLt (nm x) s=true)∧(∀q x,j≤q→l[q]? = some x→sLt (nm x) s=false))
  (fun i j=>j-i) ⟨Nat.zero_le _,Nat.le_refl _,fun q x h=>absurd h (Nat.not_lt_zero q),fun q x h hx=>by rw[List.getElem?_eq_none h]at hx;cases hx⟩ rfl sb rfl ?_
 intro i j ⟨hij,hj,hlo,hhi⟩;refine gC 8 (fun h17 p17=>?_) fun h17 p17=>?_
 ·have hlt:(i+j) / 2<l.length:=oM;refine go 8 ?_;refine o_v rfl (a1K he he rfl (m:=(i:Int)+(j:Int)) (wrap_u64 _ oM oM)) ?_;refine o_v rfl (a6w rfl (by decide)) ?_;refine o_v rfl (a1K he he rfl (m:=(((i+j) / 2:Nat):Int)) (by rw[IntKind.wrap_i64];omega)) ?_;refine go 8 ?_;obtain⟨b27,o27,w27,e27,c27,r27⟩:=RdA.at_ hA (i:=(i+j) / 2) hlt;refine o_v rfl (a0m he rfl rfl e27 ((i+j) / 2) oM hlt) ?_;refine o_v rfl (a0V he rfl c27 (Enc.len r27)) ?_;refine go 2 ?_;refine cV (hp _ _ r27) ?_;refine gC 3 (fun h31 p31=>?_) fun h31 p31=>?_
  ·refine go 7 ?_;exact a0n ((i+j) / 2+1) (j) ⟨oM,hj,d1Y hs hlt (a5R.1 p31),hhi⟩ oM rfl sb rfl
  ·refine go 6 ?_;exact a0n (i) ((i+j) / 2) ⟨oM,oM,hlo,d1X hs hlt (by simpa[a5R]using p31)⟩ oM rfl sb rfl
 ·have hpos:a6c nm l s=i:=b7F oM hlo (fun q x hq hx=>hhi q x oM hx);refine gS 12 39 (fun h39 p39=>?_) fun h39 p39=>?_
  ·have hlt:i<l.length:=oM;refine go 3 ?_;obtain⟨b43,o43,w43,e43,c43,r43⟩:=RdA.at_ hA (i:=i) hlt;refine go 1 ?_;refine a0A (a0q rfl rfl h39 (a0t rfl (a0V he rfl c43 (Enc.len r43)) ?_));refine go 2 ?_;refine a0q rfl rfl h39 (a0v (hp _ _ r43) rfl rfl ?_);refine go 8 ?_;exact q_v (by rw[hpos,d1U hpos hlt];simp only[a6Q])
  ·refine go 15 ?_;exact q_v (by rw[hpos,c8l hpos oM])
theorem c5X (I:IMap) (x:Prp) (vs:List Value) (h:Enc.rd I vs x) (s:ByteArray) (f:FuncId) (nm:Prp→ByteArray) (hp:FnV prog f #[.agg vs.toArray] I (.string (nm x))) (g:Nat) (hg:ICells I g 0 [.func (.func f) #[] #[]]) :
    FnV prog 211 #[.agg vs.toArray,.string s,.pointer (some ⟨g,0,none⟩)] I (.int .i64 (a8G (nm x) s)):=by
 have hl:=Enc.len h;refine enter func211 call211 rfl ntmps211 rfl fun w0=>?_;refine go 4 fun g3=>?_
 refine go 5 ?_;refine o_v rfl (a0H he rfl (hg 0 _ rfl)) ?_;refine o_v rfl (a3f m0 he rfl hl) ?_;refine go 1 ?_;refine cV (hp) ?_;refine go 2 ?_;refine cV (a3x _ _ _) ?_;refine go 5 ?_;exact q_v rfl
theorem b1a (I:IMap) (v:Value) (l:List Part) (hv:RdS I v l) (hl:l.length≤1000000) :
    FnX prog 59 #[v] I [] (fun u r=>∃xss,r = .row u 85 14 l.length xss.flatten∧FlatC I xss l):=by
 have hv0:=hv;obtain⟨A,c0,rfl,hA,hc,hm⟩:=hv;refine enter func59 call59 rfl ntmps59 rfl fun w0=>?_;refine go 9 ?_;refine o_v rfl (b2U he rfl) ?_;refine gC 2 (fun h4 p4=>?_) fun h4 p4=>?_
 ·obtain rfl:l=[]:=List.eq_nil_of_length_eq_zero (by rcases Nat.eq_zero_or_pos l.length with h|h;exact h;obtain⟨_,_,e,_⟩:=hA h;subst e;cases h4);refine a0G 85 14 ?_;refine go 8 ?_;exact q_x ⟨[],rfl,.nil⟩
 ·refine go 6 fun v5=>?_
  refine go 2 ?_;refine a1d (hv0) rfl he he rfl rfl rfl rfl oM oM rfl fun v7 x7 f7=>?_;refine go 5 ?_;exact q_x (by obtain⟨xss,rfl,hx⟩:=FlatC.of f7;exact⟨xss,by rw[Nat.zero_add];rfl,hx⟩)
theorem c0q (I:IMap) (v:Value) (l:List Prp) (hv:RdS I v l) (hl:l.length≤1000000) :
    FnX prog 212 #[v] I [] (fun u r=>∃xss,r = .row u 234 2 l.length xss.flatten∧FlatC I xss l):=by
 have hv0:=hv;obtain⟨A,c0,rfl,hA,hc,hm⟩:=hv;refine enter func212 call212 rfl ntmps212 rfl fun w0=>?_;refine go 9 ?_;refine o_v rfl (b2U he rfl) ?_;refine gC 2 (fun h4 p4=>?_) fun h4 p4=>?_
 ·obtain rfl:l=[]:=List.eq_nil_of_length_eq_zero (by rcases Nat.eq_zero_or_pos l.length with h|h;exact h;obtain⟨_,_,e,_⟩:=hA h;subst e;cases h4);refine a0G 234 2 ?_;refine go 8 ?_;exact q_x ⟨[],rfl,.nil⟩
 ·refine go 6 fun v5=>?_
  refine go 2 ?_;refine a1d (hv0) rfl he he rfl rfl rfl rfl oM oM rfl fun v7 x7 f7=>?_;refine go 5 ?_;exact q_x (by obtain⟨xss,rfl,hx⟩:=FlatC.of f7;exact⟨xss,by rw[Nat.zero_add];rfl,hx⟩)
theorem b3o (I:IMap) (v:Value) (l:List Evt) (hv:RdS I v l) (hl:l.length≤1000000) :
    FnX prog 54 #[v] I [] (fun u r=>∃xss,r = .row u 130 14 l.length xss.flatten∧FlatC I xss l):=by
 have hv0:=hv;obtain⟨A,c0,rfl,hA,hc,hm⟩:=hv;refine enter func54 call54 rfl ntmps54 rfl fun w0=>?_;refine go 9 ?_;refine o_v rfl (b2U he rfl) ?_;refine gC 2 (fun h4 p4=>?_) fun h4 p4=>?_
 ·obtain rfl:l=[]:=List.eq_nil_of_length_eq_zero (by rcases Nat.eq_zero_or_pos l.length with h|h;exact h;obtain⟨_,_,e,_⟩:=hA h;subst e;cases h4);refine a0G 130 14 ?_;refine go 8 ?_;exact q_x ⟨[],rfl,.nil⟩
 ·refine go 6 fun v5=>?_
  refine go 2 ?_;refine a1d (hv0) rfl he he rfl rfl rfl rfl oM oM rfl fun v7 x7 f7=>?_;refine go 5 ?_;exact q_x (by obtain⟨xss,rfl,hx⟩:=FlatC.of f7;exact⟨xss,by rw[Nat.zero_add];rfl,hx⟩)
theorem a7L (args:Array Value) (w:World):(callFunc 273 args).run prog w=((Extern.SlicesOverlaps.overlaps #[60,60] #[4] args).run prog w).andThen fun v w'=>.ok (.value v) w':=by
 have h1:Extern.findNext Tryz.f273=none:=by kernel_rfl
 have h2:Extern.find Tryz.f273=some (Extern.SlicesOverlaps.overlaps #[60,60] #[4]):=by kernel_rfl
 have h3 : (Tryz.f273.name == "runtime.NumGoroutine") = false := by kernel_rfl
 have h4:Tryz.f273.body.isNone=true:=rfl
 simp only[callFunc,Sem.run_bind,run_program,Result.andThen_ok,func273,h3,h4,h1,h2]
 simp
theorem b2E (I:IMap) (b g la ca lb cb o:Nat) (c:List Value) (cs:List Value) (tt:Nat) (B:Option Addr) (hB:B=some ⟨g,o,none⟩) (hb:I b=some (.cells c.toArray tt (0,0))) (hcs:cs.length≠0) :
  FnK prog 273 #[.slice (some ⟨b,0,none⟩) la ca,.slice B lb cb] I (.blk g 85 cs) (fun u=>u = .bool false):=by
 subst hB;refine⟨fun w m=>?_⟩;unfold After;have hg:w.heap[g]? = some (.cells cs.toArray 85 (0,0)):=m.blk;have hbw:=m.con b _ hb
 have hne:b≠g:=by
  rintro rfl;have:=(m.priv _ (List.mem_cons_self ..) b rfl).1;rw[hb]at this;cases this
 rw[a7L,Lib.run_overlaps_apart (P:=prog) w 60 4 85 he 14 (fun w=>(a0U he w).2) ⟨b,0,none⟩ ⟨g,o,none⟩ la ca lb cb hne tt 85 c.length cs.length (by simp[World.shape?,hbw]) (by simp[World.shape?,hg]) hcs (by simp[World.frozen?,hbw]) (by simp[World.frozen?,hbw])];exact⟨_,I,[_],rfl,m,rfl,rfl,rfl⟩
theorem b0K (I:IMap) (y:Value) (x:Part) (hy:RdS I y [x]) :
    FnX prog 208 #[.slice none 0 0,.int .i64 0,y] I [] (fun u r=>∃zss,r = .row u 85 14 1 zss.flatten∧FlatC I zss [x]):=by
 have hy0:=hy;obtain⟨Y,yc,rfl,hA,hc,hm⟩:=hy;refine enter func208 call208 rfl ntmps208 rfl fun w0=>?_;refine a0G 85 14 ?_;refine go 9 ?_;refine o_v rfl (a0E he rfl rfl 0 rfl (Nat.le_refl _)) ?_;refine go 40 ?_;refine a1d (hy0) rfl he he rfl rfl rfl rfl (by simp) (by simp) rfl fun v25 x25 f25=>?_;refine go 6 ?_;exact q_x (by obtain⟨xss,rfl,hx⟩:=FlatC.of f25;exact⟨xss,rfl,hx⟩)
theorem b0J (I:IMap) (l:List Part) (xss rest:List (List Value)) (g cap i b yc:Nat) (hx:FlatC I xss l) (hR:Uk 14 rest) (hcap:l.length+rest.length=cap) (hmax:cap≤maxLen) (hl:l.length≤1000000) (hi:i≤l.length) (x:Part) (c c2:List Value) (hb:I b=some (.cells (c++c2).toArray 85 (0,0))) (hc:Enc.rd I c x) (hyc:1≤yc) (hyc2:yc≤9223372036854775807) :
    FnX prog 208 #[.slice (some ⟨g,0,none⟩) l.length cap,.int .i64 (i:Nat),.slice (some ⟨b,0,none⟩) 1 yc] I [(.blk g 85 (xss++rest).flatten)] (fun u r=>∃zss,r = .row u 85 14 (l.length+1) zss.flatten∧FlatC I zss (l.take i++x::l.drop i)):=by
 have hU:Uk 14 xss:=hx.uk;have hlen:=hx.len;have hV1:Uk 14 [c]:=(fun d hd=>by rw[List.mem_singleton.1 hd];exact Enc.len hc);have hcI:ICells I b 0 c:=(fun j u hu=>⟨_,_,_,hb,by rw[Nat.zero_add];simpa using (List.getElem?_append_left (List.getElem?_eq_some_iff.1 hu).1).trans hu⟩);have hY:RdS I (.slice (some ⟨b,0,none⟩) 1 yc) [x]:=⟨_,yc,rfl,fun _=>⟨b,0,rfl,fun q z hq=>by cases q with|zero=>(cases hq;exact⟨c,by simpa using hcI,hc⟩)|succ q=>simp at hq⟩,hyc,hyc2⟩;refine enter func208 call208 rfl ntmps208 rfl fun w0=>?_;refine go 9 ?_;refine o_v rfl (a0E he rfl rfl i rfl hi) ?_;refine gC 34 (fun h22 p22=>?_) fun h22 p22=>?_
 ·obtain rfl:i=l.length:=oM;refine go 5 ?_;refine a2a hU hR hlen hcap hmax ?_;refine a1d (hY) rfl he he rfl rfl rfl rfl (by simp;omega) (by simp;omega) rfl fun v25 x25 f25=>?_;refine go 6 ?_;exact q_x (by obtain⟨zss,rfl,hz⟩:=FlatC.of f25;exact⟨xss++zss,by rw[List.flatten_append];rfl,by rw[List.take_length,List.drop_length];exact hx.append hz⟩)
 ·refine go 9 ?_;refine o_v rfl (c6Z he rfl) ?_;refine gC 3 (fun h31 p31=>?_) fun h31 p31=>?_
  ·refine go 4 ?_;refine o_v rfl (a2e he rfl rfl i rfl oM) ?_;refine go 4 ?_;refine o_v rfl (OV.cast (u:=.int .i64 ((l.length+1-i:Nat):Int)) (a1f rfl rfl ⟨oM,oM⟩) (congrArg (Value.int .i64) oM)) ?_;refine go 1 ?_;refine a8o (xss.take i) he he he rfl rfl rfl rfl (hU.append hR) (by rw[List.length_take];omega) (hU.take i) (fun _=>⟨rfl,by rw[List.take_append_of_le_length oM]⟩) oM oM oM (by unfold maxLen;omega) rfl fun g40 r40 hr40=>?_;refine go 7 ?_;refine o_v rfl (a0E he rfl rfl i rfl oM) ?_;refine go 2 ?_;have hU1:Uk 14 (xss.take i++List.replicate (l.length+1-i+r40) _):=(hU.take i).append (Uk.rep (c:=[.string ⟨#[]⟩,.string ⟨#[]⟩,.string ⟨#[]⟩,.string ⟨#[]⟩,.int .i64 0,.int .i64 0,.bool false,.slice none 0 0,.int .i64 0,.int .i64 0,.int .i64 0,.int .i64 0,.int .i64 0,.int .i64 0]) rfl _);refine a6s [c] i he rfl rfl (by simp;omega) hU1 hV1 (by simpa using Enc.one hc) (fun _=>a1r oM) (fun _=>⟨b,0,rfl,fun w mm j u hu=>(hcI j u (by simpa using hu)).at_ mm.con⟩) (by simp;omega) rfl ?_;refine go 3 ?_;refine ds1 ?_;refine dG 0 4 ?_;refine a0I 4 rfl rfl (by kernel_rfl) rfl (.cons _ (.refl _)) rfl (a0E he rfl rfl (i+1) oM oM) ?_;refine dG 5 2 ?_;refine a0I 7 rfl rfl (by kernel_rfl) rfl (.cons _ (.refl _)) rfl (a0E he rfl rfl i rfl oM) ?_;refine dH 8 0 ?_;have hU2:=((hU1.take i).append (hV1.append (hU1.drop (i+[c].length))));refine a6s (xss.drop i) (i+1) he rfl rfl (by simp;omega) hU2 (hU.drop i) (hx.drop i).one (fun _=>a1r oM) (fun h=>⟨g,i * 14,a1r (by simp at h;omega),fun w mm j u hu=>b2M (o:=i) (m:=l.length-i) m1 (hU.append hR) w mm j u (by rw[List.drop_append_of_le_length oM,List.take_append_of_le_length (by simp;omega),List.take_of_length_le (by simp;omega)];exact hu)⟩) (by simp;omega) rfl ?_;refine go 12 ?_;refine a0b ?_;refine a0a ?_;refine a4q (b7a hlen hi oM) ?_;refine a2a (m:=i+(l.length+1-i)) (cap:=i+(l.length+1-i)+r40) ((hU.take i).append (fun d hd=>by rcases List.mem_cons.1 hd with rfl|hd;exact Enc.len hc;exact hU.drop i d hd)) (Uk.rep rfl _) (by simp<;>omega) (by simp<;>omega) oM ?_;exact q_x (by exact⟨_,by congr 1<;>omega,(hx.take i).append (.cons hc (hx.drop i))⟩)
  ·have hr1:0<rest.length:=oM;refine go 8 ?_;refine o_v rfl (a2e he rfl rfl (l.length+1) oM oM) ?_;refine go 11 ?_;refine o_v rfl (a0E he rfl rfl (i+1) oM oM) ?_;refine go 1 ?_;refine a7V (b2E I b g 1 yc _ _ _ (c++c2) _ 85 _ (a1r (k:=14) (show i+1<cap from oM)) hb (by rw[a2E (hU.append hR),List.length_append];omega)) rfl rfl fun v67 q67=>?_;obtain rfl:=q67;refine go 5 ?_;refine ds1 ?_;refine dG 0 4 ?_;refine a0I 4 rfl rfl (by kernel_rfl) rfl (.cons _ .slnil) rfl (a0E he rfl rfl (i+1) oM oM) ?_;refine dG 5 2 ?_;refine a0I 7 rfl rfl (by kernel_rfl) rfl (.cons _ .slnil) rfl (a0E he rfl rfl i rfl oM) ?_;refine dH 8 0 ?_;refine a6s (((xss++rest).drop i).take (l.length-i)) (i+1) he rfl rfl (by simp;omega) (hU.append hR) (((hU.append hR).drop i).take _) (by rw[List.drop_append_of_le_length oM,List.take_append_of_le_length (by simp;omega)];exact ((hx.drop i).take _).one) (fun _=>a1r oM) (fun h=>⟨g,i * 14,a1r oM,fun w mm j u hu=>b2M (o:=i) m0 (hU.append hR) w mm j u hu⟩) (by simp;omega) rfl ?_;refine go 7 ?_;refine o_v rfl (a0E he rfl rfl i rfl oM) ?_;refine go 2 ?_;have hU3:=(((hU.append hR).take (i+1)).append ((((hU.append hR).drop i).take (l.length-i)).append ((hU.append hR).drop (i+1+(((xss++rest).drop i).take (l.length-i)).length))));refine a6s [c] i he rfl rfl (by simp;omega) hU3 hV1 (by simpa using Enc.one hc) (fun _=>a1r oM) (fun _=>⟨b,0,rfl,fun w mm j u hu=>(hcI j u (by simpa using hu)).at_ mm.con⟩) (by simp;omega) rfl ?_;refine go 11 ?_;refine a4q (b3K hlen hi hr1) ?_;refine a2a (m:=l.length+1) (cap:=cap) ((hU.take i).append (fun d hd=>by rcases List.mem_cons.1 hd with rfl|hd;exact Enc.len hc;exact hU.drop i d hd)) (hR.drop 1) (by simp<;>omega) (by simp<;>omega) hmax ?_;exact q_x (by exact⟨_,by congr 1<;>omega,(hx.take i).append (.cons hc (hx.drop i))⟩)
theorem a8y (args:Array Value) (w:World):(callFunc 275 args).run prog w=((Extern.SlicesOverlaps.overlaps #[79,79] #[4] args).run prog w).andThen fun v w'=>.ok (.value v) w':=by
 have h1:Extern.findNext Tryz.f275=none:=by kernel_rfl
 have h2:Extern.find Tryz.f275=some (Extern.SlicesOverlaps.overlaps #[79,79] #[4]):=by kernel_rfl
 have h3 : (Tryz.f275.name == "runtime.NumGoroutine") = false := by kernel_rfl
 have h4:Tryz.f275.body.isNone=true:=rfl
 simp only[callFunc,Sem.run_bind,run_program,Result.andThen_ok,func275,h3,h4,h1,h2]
 simp
theorem b4j (I:IMap) (b g la ca lb cb o:Nat) (c:List Value) (cs:List Value) (tt:Nat) (B:Option Addr) (hB:B=some ⟨g,o,none⟩) (hb:I b=some (.cells c.toArray tt (0,0))) (hcs:cs.length≠0) :
  FnK prog 275 #[.slice (some ⟨b,0,none⟩) la ca,.slice B lb cb] I (.blk g 234 cs) (fun u=>u = .bool false):=by
 subst hB;refine⟨fun w m=>?_⟩;unfold After;have hg:w.heap[g]? = some (.cells cs.toArray 234 (0,0)):=m.blk;have hbw:=m.con b _ hb
 have hne:b≠g:=by
  rintro rfl;have:=(m.priv _ (List.mem_cons_self ..) b rfl).1;rw[hb]at this;cases this
 rw[a8y,Lib.run_overlaps_apart (P:=prog) w 79 4 234 he 2 (fun w=>(a0U he w).2) ⟨b,0,none⟩ ⟨g,o,none⟩ la ca lb cb hne tt 234 c.length cs.length (by simp[World.shape?,hbw]) (by simp[World.shape?,hg]) hcs (by simp[World.frozen?,hbw]) (by simp[World.frozen?,hbw])];exact⟨_,I,[_],rfl,m,rfl,rfl,rfl⟩
theorem b2p (I:IMap) (y:Value) (x:Prp) (hy:RdS I y [x]) :
    FnX prog 213 #[.slice none 0 0,.int .i64 0,y] I [] (fun u r=>∃zss,r = .row u 234 2 1 zss.flatten∧FlatC I zss [x]):=by
 have hy0:=hy;obtain⟨Y,yc,rfl,hA,hc,hm⟩:=hy;refine enter func213 call213 rfl ntmps213 rfl fun w0=>?_;refine a0G 234 2 ?_;refine go 9 ?_;refine o_v rfl (a0E he rfl rfl 0 rfl (Nat.le_refl _)) ?_;refine go 40 ?_;refine a1d (hy0) rfl he he rfl rfl rfl rfl (by simp) (by simp) rfl fun v25 x25 f25=>?_;refine go 6 ?_;exact q_x (by obtain⟨xss,rfl,hx⟩:=FlatC.of f25;exact⟨xss,rfl,hx⟩)
theorem b2o (I:IMap) (l:List Prp) (xss rest:List (List Value)) (g cap i b yc:Nat) (hx:FlatC I xss l) (hR:Uk 2 rest) (hcap:l.length+rest.length=cap) (hmax:cap≤maxLen) (hl:l.length≤1000000) (hi:i≤l.length) (x:Prp) (c c2:List Value) (hb:I b=some (.cells (c++c2).toArray 234 (0,0))) (hc:Enc.rd I c x) (hyc:1≤yc) (hyc2:yc≤9223372036854775807) :
    FnX prog 213 #[.slice (some ⟨g,0,none⟩) l.length cap,.int .i64 (i:Nat),.slice (some ⟨b,0,none⟩) 1 yc] I [(.blk g 234 (xss++rest).flatten)] (fun u r=>∃zss,r = .row u 234 2 (l.length+1) zss.flatten∧FlatC I zss (l.take i++x::l.drop i)):=by
 have hU:Uk 2 xss:=hx.uk;have hlen:=hx.len;have hV1:Uk 2 [c]:=(fun d hd=>by rw[List.mem_singleton.1 hd];exact Enc.len hc);have hcI:ICells I b 0 c:=(fun j u hu=>⟨_,_,_,hb,by rw[Nat.zero_add];simpa using (List.getElem?_append_left (List.getElem?_eq_some_iff.1 hu).1).trans hu⟩);have hY:RdS I (.slice (some ⟨b,0,none⟩) 1 yc) [x]:=⟨_,yc,rfl,fun _=>⟨b,0,rfl,fun q z hq=>by cases q with|zero=>(cases hq;exact⟨c,by simpa using hcI,hc⟩)|succ q=>simp at hq⟩,hyc,hyc2⟩;refine enter func213 call213 rfl ntmps213 rfl fun w0=>?_;refine go 9 ?_;refine o_v rfl (a0E he rfl rfl i rfl hi) ?_;refine gC 34 (fun h22 p22=>?_) fun h22 p22=>?_
 ·obtain rfl:i=l.length:=oM;refine go 5 ?_;refine a2a hU hR hlen hcap hmax ?_;refine a1d (hY) rfl he he rfl rfl rfl rfl (by simp;omega) (by simp;omega) rfl fun v25 x25 f25=>?_;refine go 6 ?_;exact q_x (by obtain⟨zss,rfl,hz⟩:=FlatC.of f25;exact⟨xss++zss,by rw[List.flatten_append];rfl,by rw[List.take_length,List.drop_length];exact hx.append hz⟩)
 ·refine go 9 ?_;refine o_v rfl (c6Z he rfl) ?_;refine gC 3 (fun h31 p31=>?_) fun h31 p31=>?_
  ·refine go 4 ?_;refine o_v rfl (a2e he rfl rfl i rfl oM) ?_;refine go 4 ?_;refine o_v rfl (OV.cast (u:=.int .i64 ((l.length+1-i:Nat):Int)) (a1f rfl rfl ⟨oM,oM⟩) (congrArg (Value.int .i64) oM)) ?_;refine go 1 ?_;refine a8o (xss.take i) he he he rfl rfl rfl rfl (hU.append hR) (by rw[List.length_take];omega) (hU.take i) (fun _=>⟨rfl,by rw[List.take_append_of_le_length oM]⟩) oM oM oM (by unfold maxLen;omega) rfl fun g40 r40 hr40=>?_;refine go 7 ?_;refine o_v rfl (a0E he rfl rfl i rfl oM) ?_;refine go 2 ?_;have hU1:Uk 2 (xss.take i++List.replicate (l.length+1-i+r40) _):=(hU.take i).append (Uk.rep (c:=[.string ⟨#[]⟩,.string ⟨#[]⟩]) rfl _);refine a6s [c] i he rfl rfl (by simp;omega) hU1 hV1 (by simpa using Enc.one hc) (fun _=>a1r oM) (fun _=>⟨b,0,rfl,fun w mm j u hu=>(hcI j u (by simpa using hu)).at_ mm.con⟩) (by simp;omega) rfl ?_;refine go 3 ?_;refine ds1 ?_;refine dG 0 4 ?_;refine a0I 4 rfl rfl (by kernel_rfl) rfl (.cons _ (.refl _)) rfl (a0E he rfl rfl (i+1) oM oM) ?_;refine dG 5 2 ?_;refine a0I 7 rfl rfl (by kernel_rfl) rfl (.cons _ (.refl _)) rfl (a0E he rfl rfl i rfl oM) ?_;refine dH 8 0 ?_;have hU2:=((hU1.take i).append (hV1.append (hU1.drop (i+[c].length))));refine a6s (xss.drop i) (i+1) he rfl rfl (by simp;omega) hU2 (hU.drop i) (hx.drop i).one (fun _=>a1r oM) (fun h=>⟨g,i * 2,a1r (by simp at h;omega),fun w mm j u hu=>b2M (o:=i) (m:=l.length-i) m1 (hU.append hR) w mm j u (by rw[List.drop_append_of_le_length oM,List.take_append_of_le_length (by simp;omega),List.take_of_length_le (by simp;omega)];exact hu)⟩) (by simp;omega) rfl ?_;refine go 12 ?_;refine a0b ?_;refine a0a ?_;refine a4q (b7a hlen hi oM) ?_;refine a2a (m:=i+(l.length+1-i)) (cap:=i+(l.length+1-i)+r40) ((hU.take i).append (fun d hd=>by rcases List.mem_cons.1 hd with rfl|hd;exact Enc.len hc;exact hU.drop i d hd)) (Uk.rep rfl _) (by simp<;>omega) (by simp<;>omega) oM ?_;exact q_x (by exact⟨_,by congr 1<;>omega,(hx.take i).append (.cons hc (hx.drop i))⟩)
  ·have hr1:0<rest.length:=oM;refine go 8 ?_;refine o_v rfl (a2e he rfl rfl (l.length+1) oM oM) ?_;refine go 11 ?_;refine o_v rfl (a0E he rfl rfl (i+1) oM oM) ?_;refine go 1 ?_;refine a7V (b4j I b g 1 yc _ _ _ (c++c2) _ 234 _ (a1r (k:=2) (show i+1<cap from oM)) hb (by rw[a2E (hU.append hR),List.length_append];omega)) rfl rfl fun v67 q67=>?_;obtain rfl:=q67;refine go 5 ?_;refine ds1 ?_;refine dG 0 4 ?_;refine a0I 4 rfl rfl (by kernel_rfl) rfl (.cons _ .slnil) rfl (a0E he rfl rfl (i+1) oM oM) ?_;refine dG 5 2 ?_;refine a0I 7 rfl rfl (by kernel_rfl) rfl (.cons _ .slnil) rfl (a0E he rfl rfl i rfl oM) ?_;refine dH 8 0 ?_;refine a6s (((xss++rest).drop i).take (l.length-i)) (i+1) he rfl rfl (by simp;omega) (hU.append hR) (((hU.append hR).drop i).take _) (by rw[List.drop_append_of_le_length oM,List.take_append_of_le_length (by simp;omega)];exact ((hx.drop i).take _).one) (fun _=>a1r oM) (fun h=>⟨g,i * 2,a1r oM,fun w mm j u hu=>b2M (o:=i) m0 (hU.append hR) w mm j u hu⟩) (by simp;omega) rfl ?_;refine go 7 ?_;refine o_v rfl (a0E he rfl rfl i rfl oM) ?_;refine go 2 ?_;have hU3:=(((hU.append hR).take (i+1)).append ((((hU.append hR).drop i).take (l.length-i)).append ((hU.append hR).drop (i+1+(((xss++rest).drop i).take (l.length-i)).length))));refine a6s [c] i he rfl rfl (by simp;omega) hU3 hV1 (by simpa using Enc.one hc) (fun _=>a1r oM) (fun _=>⟨b,0,rfl,fun w mm j u hu=>(hcI j u (by simpa using hu)).at_ mm.con⟩) (by simp;omega) rfl ?_;refine go 11 ?_;refine a4q (b3K hlen hi hr1) ?_;refine a2a (m:=l.length+1) (cap:=cap) ((hU.take i).append (fun d hd=>by rcases List.mem_cons.1 hd with rfl|hd;exact Enc.len hc;exact hU.drop i d hd)) (hR.drop 1) (by simp<;>omega) (by simp<;>omega) hmax ?_;exact q_x (by exact⟨_,by congr 1<;>omega,(hx.take i).append (.cons hc (hx.drop i))⟩)
theorem b5y (I:IMap) (v:Value) (l:List Part) (xss:List (List Value)) (i b yc:Nat) (hx:FlatC I xss l) (hl:l.length≤1000000) (hi:i≤l.length) (x:Part) (c c2:List Value) (hb:I b=some (.cells (c++c2).toArray 85 (0,0))) (hc:Enc.rd I c x) (hyc:1≤yc) (hyc2:yc≤9223372036854775807) :
  FnX prog 208 #[v,.int .i64 (i:Nat),.slice (some ⟨b,0,none⟩) 1 yc] I [.row v 85 14 l.length xss.flatten] (fun u r=>∃zss,r = .row u 85 14 (l.length+1) zss.flatten∧FlatC I zss (l.take i++x::l.drop i)):=
 FnX.of_row (args:=fun v=>[v,.int .i64 (i:Nat),.slice (some ⟨b,0,none⟩) 1 yc]) hx.uk hx.len (fun h0=>by
  obtain rfl:=List.eq_nil_of_length_eq_zero h0;obtain rfl:i=0:=by simp at hi;omega
  have hcI:ICells I b 0 c:=(fun j u hu=>⟨_,_,_,hb,by rw[Nat.zero_add];simpa using (List.getElem?_append_left (List.getElem?_eq_some_iff.1 hu).1).trans hu⟩)
  exact b0K I _ x ⟨_,yc,rfl,fun _=>⟨b,0,rfl,fun q z hq=>by cases q with|zero=>(cases hq;exact⟨c,by simpa using hcI,hc⟩)|succ q=>simp at hq⟩,hyc,hyc2⟩)
  (fun g cap rest h1 h2 h3=>b0J I l xss rest g cap i b yc hx h1 h2 h3 hl hi x c c2 hb hc hyc hyc2)
theorem c5Y (I:IMap) (v:Value) (l:List Part) (hv:RdS I v l) (hl:l.length≤1000000) (x:Part) (B:Option Addr) (d:Nat) (hr:Enc.rd I (x.cells (.slice B x.props.length d)) x) (f:FuncId) (nm:Part→ByteArray) (hp:∀J,ILe I J→∀y vs,Enc.rd J vs y→FnV prog f #[.agg vs.toArray] J (.string (nm y))) (hs:Srt nm l) :
    FnI prog 124 #[v,.agg (x.cells (.slice B x.props.length d)).toArray,.func (.func f) #[] #[]] I (fun u J=>RdS J u (a4P nm l x)):=by
 refine enter func124 call124 rfl ntmps124 rfl fun w0=>?_;refine go 4 fun g4=>?_
 refine go 2 fun g5=>?_
 refine go 9 ?_;refine cV (hp _ (ILe.refl _) x _ hr) ?_;refine a0B fun Ig5 jg5 cg5=>?_;have hv:=hv.le jg5;have hr:=Enc.mono jg5 hr;refine go 2 ?_;refine cV (b3l Ig5 v l hv hl (nm x) _ [.pointer (some ⟨g5,0,none⟩)] nm (fun y vs hr=>c2q _ y vs hr (nm x) f nm (hp _ jg5 y vs hr) g5 cg5) hs) ?_;refine go 11 ?_;refine a1F (b1a _ v l hv hl) rfl rfl fun v20 s20 q20=>?_;obtain⟨xss,rfl,hx⟩:=q20;refine gC 9 (fun h21 p21=>?_) fun h21 p21=>?_
 ·have hlt:=c7t h21;refine a7A hx.uk hx.len (fun h0 _=>absurd hlt oM) fun g20 cap20 rest20 e20 hr20 hc20 hm20=>?_;subst e20;refine go 5 ?_;refine o_v rfl (a0m he rfl rfl rfl (a6c nm l (nm x)) oM hlt) ?_;refine go 1 ?_;refine a1O _ (a6c nm l (nm x)) (hx.uk.append hr20) he rfl rfl rfl rfl (Enc.one hr) (Nat.zero_add _) (by rw[List.length_append,hx.len];omega) ?_;refine a4q (List.set_append_left _ _ (by rw[hx.len];exact hlt)) ?_;refine a2a (m:=l.length) (cap:=cap20) (hx.uk.set rfl _) hr20 (by simp[hx.len]) hc20 hm20 ?_;refine go 11 ?_;refine a0i (l:=l.set (a6c nm l (nm x)) x) rfl (by simp) ((hx.set hr _).flat) fun I9 j9 R9=>?_;exact q_i (by simp only[a4P,h21,if_true];exact R9)
 ·refine go 9 fun v30=>?_
  refine a7A (xss:=[x.cells (.slice B x.props.length d)]) (fun d hd=>by rw[List.mem_singleton.1 hd];rfl) rfl (fun h=>absurd h (by decide)) fun b30 cap30 rest30 e30 hr30 hc30 hm30=>?_;subst e30;refine c3d fun I30 j30 B30=>?_;have hx:=hx.le j30;have hv:=hv.le j30;have hr:=Enc.mono j30 hr;refine go 1 ?_;refine a0K (b5y _ _ l xss (a6c nm l (nm x)) b30 cap30 hx hl (b7G _ _ _) x _ rest30.flatten B30 hr oM (by unfold maxLen at hm30;omega)) rfl rfl fun v31 s31 q31=>?_;obtain⟨zss,rfl,hz⟩:=q31;refine go 5 ?_;refine a0i (l:=l.take (a6c nm l (nm x))++x::l.drop (a6c nm l (nm x))) rfl (by have:=b7G nm l (nm x);simp;omega) hz.flat fun I9 j9 R9=>?_;exact q_i (by simp only[a4P,h21];exact R9)
theorem b8K (I:IMap) (v:Value) (l:List Prp) (xss:List (List Value)) (i b yc:Nat) (hx:FlatC I xss l) (hl:l.length≤1000000) (hi:i≤l.length) (x:Prp) (c c2:List Value) (hb:I b=some (.cells (c++c2).toArray 234 (0,0))) (hc:Enc.rd I c x) (hyc:1≤yc) (hyc2:yc≤9223372036854775807) :
  FnX prog 213 #[v,.int .i64 (i:Nat),.slice (some ⟨b,0,none⟩) 1 yc] I [.row v 234 2 l.length xss.flatten] (fun u r=>∃zss,r = .row u 234 2 (l.length+1) zss.flatten∧FlatC I zss (l.take i++x::l.drop i)):=
 FnX.of_row (args:=fun v=>[v,.int .i64 (i:Nat),.slice (some ⟨b,0,none⟩) 1 yc]) hx.uk hx.len (fun h0=>by
  obtain rfl:=List.eq_nil_of_length_eq_zero h0;obtain rfl:i=0:=by simp at hi;omega
  have hcI:ICells I b 0 c:=(fun j u hu=>⟨_,_,_,hb,by rw[Nat.zero_add];simpa using (List.getElem?_append_left (List.getElem?_eq_some_iff.1 hu).1).trans hu⟩)
  exact b2p I _ x ⟨_,yc,rfl,fun _=>⟨b,0,rfl,fun q z hq=>by cases q with|zero=>(cases hq;exact⟨c,by simpa using hcI,hc⟩)|succ q=>simp at hq⟩,hyc,hyc2⟩)
  (fun g cap rest h1 h2 h3=>b2o I l xss rest g cap i b yc hx h1 h2 h3 hl hi x c c2 hb hc hyc hyc2)
theorem d0x (I:IMap) (v:Value) (l:List Prp) (hv:RdS I v l) (hl:l.length≤1000000) (x:Prp)  (hr:Enc.rd I (x.cells) x) (f:FuncId) (nm:Prp→ByteArray) (hp:∀J,ILe I J→∀y vs,Enc.rd J vs y→FnV prog f #[.agg vs.toArray] J (.string (nm y))) (hs:Srt nm l) :
    FnI prog 132 #[v,.agg (x.cells).toArray,.func (.func f) #[] #[]] I (fun u J=>RdS J u (a4P nm l x)):=by
 refine enter func132 call132 rfl ntmps132 rfl fun w0=>?_;refine go 4 fun g4=>?_
 refine go 2 fun g5=>?_
 refine go 9 ?_;refine cV (hp _ (ILe.refl _) x _ hr) ?_;refine a0B fun Ig5 jg5 cg5=>?_;have hv:=hv.le jg5;have hr:=Enc.mono jg5 hr;refine go 2 ?_;refine cV (b4Y Ig5 v l hv hl (nm x) _ [.pointer (some ⟨g5,0,none⟩)] nm (fun y vs hr=>c5X _ y vs hr (nm x) f nm (hp _ jg5 y vs hr) g5 cg5) hs) ?_;refine go 11 ?_;refine a1F (c0q _ v l hv hl) rfl rfl fun v20 s20 q20=>?_;obtain⟨xss,rfl,hx⟩:=q20;refine gC 9 (fun h21 p21=>?_) fun h21 p21=>?_
 ·have hlt:=c7t h21;refine a7A hx.uk hx.len (fun h0 _=>absurd hlt oM) fun g20 cap20 rest20 e20 hr20 hc20 hm20=>?_;subst e20;refine go 5 ?_;refine o_v rfl (a0m he rfl rfl rfl (a6c nm l (nm x)) oM hlt) ?_;refine go 1 ?_;refine a1O _ (a6c nm l (nm x)) (hx.uk.append hr20) he rfl rfl rfl rfl (Enc.one hr) (Nat.zero_add _) (by rw[List.length_append,hx.len];omega) ?_;refine a4q (List.set_append_left _ _ (by rw[hx.len];exact hlt)) ?_;refine a2a (m:=l.length) (cap:=cap20) (hx.uk.set rfl _) hr20 (by simp[hx.len]) hc20 hm20 ?_;refine go 11 ?_;refine a0i (l:=l.set (a6c nm l (nm x)) x) rfl (by simp) ((hx.set hr _).flat) fun I9 j9 R9=>?_;exact q_i (by simp only[a4P,h21,if_true];exact R9)
 ·refine go 9 fun v30=>?_
  refine a7A (xss:=[x.cells]) (fun d hd=>by rw[List.mem_singleton.1 hd];rfl) rfl (fun h=>absurd h (by decide)) fun b30 cap30 rest30 e30 hr30 hc30 hm30=>?_;subst e30;refine c3d fun I30 j30 B30=>?_;have hx:=hx.le j30;have hv:=hv.le j30;have hr:=Enc.mono j30 hr;refine go 1 ?_;refine a0K (b8K _ _ l xss (a6c nm l (nm x)) b30 cap30 hx hl (b7G _ _ _) x _ rest30.flatten B30 hr oM (by unfold maxLen at hm30;omega)) rfl rfl fun v31 s31 q31=>?_;obtain⟨zss,rfl,hz⟩:=q31;refine go 5 ?_;refine a0i (l:=l.take (a6c nm l (nm x))++x::l.drop (a6c nm l (nm x))) rfl (by have:=b7G nm l (nm x);simp;omega) hz.flat fun I9 j9 R9=>?_;exact q_i (by simp only[a4P,h21];exact R9)
end Go.Proofs.YtgmkjpafapgccaaGreat
namespace Go.Proofs.YtgmkjpafapgccaaGreat
open Go Go.Sx Tryz
set_option linter.all false
set_option maxRecDepth 20000
set_option maxHeartbeats 4000000
instance:Has (plK prog 234) [(0,1),(1,1)]:=hk
instance:Has (plK prog 62) [(0,1)]:=hk
instance:Has (plK prog 83) [(0,2),(2,2),(4,2)]:=hk
instance:Has (tyK prog 83) (true,6):=hk
instance:Has (a1i prog 62) [.slice none 0 0]:=hk
instance:Has (a1i prog 83) [.int .i64 0,.int .i64 0,.int .i64 0,.int .i64 0,.int .i64 0,.int .i64 0]:=hk
theorem c7q (I:IMap) (v:Value) (l:List Part) (hv:RdS I v l) (hl:l.length≤1000000) (x:Part) (B:Option Addr) (d:Nat) (hr:Enc.rd I (x.cells (.slice B x.props.length d)) x) (g4:Nat) (c4:ICells I g4 0 [v]) (hs:Srt Part.name l) :
    FnI prog 123 #[.agg (x.cells (.slice B x.props.length d)).toArray,.pointer (some ⟨g4,0,none⟩)] I (fun u J=>∃w,u = .tuple #[.agg #[w],.int .i64 0]∧RdS J w (a4P Part.name l x)):=by
 refine enter func123 call123 rfl ntmps123 rfl fun w0=>?_;refine go 4 fun g2=>?_
 refine go 2 fun g3=>?_
 refine go 9 ?_;refine a0p (c5Y _ v l hv hl x B d hr _ Part.name (fun J hJ y vs hr=>c8i J y vs hr) hs) rfl rfl fun v8 I8 j8 q8=>?_;obtain⟨B8,d8,rfl,h8⟩:=q8;refine go 8 ?_;exact q_i ⟨_,rfl,B8,d8,rfl,h8⟩
theorem a3T (I:IMap) (n:Int) :
    FnV prog 126 #[.int .i64 n] I (.tuple #[.agg #[.slice none 0 0],.int .i64 n]):=by
 refine enter func126 call126 rfl ntmps126 rfl fun w0=>?_;refine go 4 fun g2=>?_
 refine go 14 ?_;exact q_v rfl
theorem c7r (I:IMap) (v:Value) (l:List Part) (hv:RdS I v l) (g4:Nat) (c4:ICells I g4 0 [v]) (f:FuncId) (cs:List Value) (p:Part→Bool) (hp:∀x∈l,∀vs,Enc.rd I vs x→FnV prog f ([Value.agg vs.toArray]++cs).toArray I (.bool (p x))) :
    FnV prog 128 #[.func (.func f) #[] cs.toArray,.pointer (some ⟨g4,0,none⟩)] I (.bool (l.any p)):=by
 refine enter func128 call128 rfl ntmps128 rfl fun w0=>?_;refine go 11 ?_;refine cV (a4U _ v l hv f cs p hp) ?_;refine go 5 ?_;exact q_v rfl
theorem d1O (I:IMap) (x:Part) (vs:List Value) (h:Enc.rd I vs x) (g:Nat) (e:Evt) (cg:ICells I g 0 e.cells) :
    FnV prog 131 #[.agg vs.toArray,.pointer (some ⟨g,0,none⟩)] I (.bool (decide (x.into=e.into)&&decide (x.slot=e.slot))):=by
 obtain⟨ps,rfl,hps⟩:=h;refine enter func131 call131 rfl ntmps131 rfl fun w0=>?_;refine go 4 fun g2=>?_
 refine go 8 ?_;refine o_v rfl (a0H he rfl (cg 4 _ rfl)) ?_;refine gS 2 9 (fun h9 p9=>?_) fun h9 p9=>?_
 ·refine go 3 ?_;refine a0A (a0q rfl rfl h9 (a0t rfl (a0H he rfl (cg 5 _ rfl)) ?_));refine go 7 ?_;exact q_v (congrArg Value.bool (by simp only[h9,bS]))
 ·refine go 11 ?_;exact q_v (congrArg Value.bool (by simp only[h9,bS]))
theorem d1Q (I:IMap) (x:Part) (vs:List Value) (h:Enc.rd I vs x) (g:Nat) (q:Part) (s:Value) (cg:ICells I g 0 (q.cells s)) :
    FnV prog 134 #[.agg vs.toArray,.pointer (some ⟨g,0,none⟩)] I (.bool (decide (x.into=q.name))):=by
 obtain⟨ps,rfl,hps⟩:=h;refine enter func134 call134 rfl ntmps134 rfl fun w0=>?_;refine go 4 fun g2=>?_
 refine go 8 ?_;refine o_v rfl (a0H he rfl (cg 0 _ rfl)) ?_;refine go 6 ?_;exact q_v rfl
theorem b5s (I:IMap) (vc:Value) (c:List Kind) (hvc:RdS I vc c) (hsc:SmC c) (v:Value) (l:List Part) (hv:RdS I v l) (hsf:SmF l) (e:Evt) (hse:SmE e) :
    FnI prog 57 #[.agg #[vc],.agg #[v],.agg e.cells.toArray] I (fun u J=>StIs J (a0g c l e) u):=by
 have hv0:=hv;obtain⟨A,c0,rfl,hA,hc,hm⟩:=hv;refine enter func57 call57 rfl ntmps57 rfl fun w0=>?_;refine go 4 fun g3=>?_
 refine go 2 fun g4=>?_
 refine go 2 fun g5=>?_
 refine go 2 fun g6=>?_
 refine go 5 ?_;refine a1N (I':=I) (L':=[(3,.pointer (some ⟨g3,0,none⟩)),(4,.pointer (some ⟨g4,0,none⟩)),(5,.pointer (some ⟨g5,0,none⟩)),(6,.pointer (some ⟨g6,0,none⟩)),(28,.bool (!a4E c l || !a1t e))]) (H':=[.blk g6 62 [.slice none 0 0],.blk g5 130 e.cells,.blk g4 62 [.slice A l.length c0],.blk g3 24 [vc]]) ?_ ?_
 ·refine go 4 ?_;refine cV (c9g _ vc c hvc hsc _ l hv0 hsf) ?_;refine gS 2 24 (fun h24 p24=>?_) fun h24 p24=>?_
  ·refine go 6 ?_;exact a0o ⟨rfl,rfl,rfl,rfl,(bB (by simp only[h24,bS])),trivial⟩ rfl rfl
  ·refine go 2 ?_;refine a0q rfl rfl h24 (a0v (b5i _ e hse) rfl rfl ?_);refine go 4 ?_;exact a0o ⟨rfl,rfl,rfl,rfl,(bB (by simp only[h24,bS])),trivial⟩ rfl rfl
 ·refine gC 0 (fun h28 p28=>?_) fun h28 p28=>?_
  ·refine go 11 ?_;exact q_i (StIs.fail (by simp only[a0g,h28,if_true]))
  ·have hV:a4E c l=true∧a1t e=true:=by revert h28;simp
   obtain⟨hsrt,hlen⟩:=b1O hV.1;have hl6:l.length≤1000000:=oM;refine go 6 ?_;refine a1F (d4L _ _ l hv0) rfl rfl fun v31 s31 q31=>?_;obtain⟨m31,kvs,rfl,rfl,hIx,_⟩:=q31;refine go 2 fun g8=>?_
   refine go 6 ?_;refine a1A ?_;refine a0B fun Ig4 jg4 cg4=>?_;have hvc:=hvc.le jg4;have hv0:=hv0.le jg4;refine go 15 ?_;refine a0b ?_;refine a7V (c4M _ _ l hv0 m31 kvs hIx e.part) rfl rfl fun v37 q37=>?_;obtain⟨vs11,rfl,s11,rfl,hs11⟩:=q37;refine go 5 fun g11=>?_
   refine go 1 ?_;refine a0Q _ he rfl rfl rfl rfl rfl (Enc.one (α:=Part) (I:=Ig4) (x:=a2U l e) ⟨s11,rfl,hs11⟩) ?_;refine gC 11 (fun h42 p42=>?_) fun h42 p42=>?_
   ·refine gC 6 (fun h43 p43=>?_) fun h43 p43=>?_
    ·refine go 4 ?_;refine cV (a3T _ 3) ?_;refine go 3 ?_;refine a0u ?_;refine go 8 ?_;exact q_i (StIs.fail (by simp only[a0g,h28,p42,a3B,h43,Bool.true_eq_false,decide_true,decide_false,Int.reduceEq,reduceIte,if_true,if_false,Bool.false_eq_true,not_true,not_false_eq_true,bS]))
    ·refine go 9 ?_;refine a1n (a9q _ vc c hvc e.kind) rfl rfl fun v52 q52=>?_;obtain⟨vs13,rfl,s13,rfl,hs13⟩:=q52;refine go 5 fun g13=>?_
     refine go 1 ?_;refine a0Q _ he rfl rfl rfl rfl rfl (Enc.one (α:=Kind) (I:=Ig4) (x:=(a7M c e.kind).getD b2Y) ⟨s13,rfl,hs13⟩) ?_;refine gC 9 (fun h56 p56=>?_) fun h56 p56=>?_
     ·refine go 4 ?_;refine cV (a3T _ 4) ?_;refine go 3 ?_;refine a1A ?_;refine go 8 ?_;exact q_i (StIs.fail (by simp only[a0g,h28,p42,a3B,h43,p56,Bool.true_eq_false,decide_true,decide_false,Int.reduceEq,reduceIte,if_true,if_false,Bool.false_eq_true,not_true,not_false_eq_true,bS]))
     ·refine go 6 ?_;refine o_v rfl (a0H he rfl (cg4 0 _ rfl)) ?_;refine gC 4 (fun h64 p64=>?_) fun h64 p64=>?_
      ·refine go 4 ?_;refine cV (a3T _ 7) ?_;refine go 3 ?_;refine a1A ?_;refine go 8 ?_;exact q_i (StIs.fail (by simp only[a0g,h28,p42,a3B,h43,p56,p64,Bool.true_eq_false,Bool.true_eq_false,decide_true,decide_false,Int.reduceEq,reduceIte,if_true,if_false,Bool.false_eq_true,not_true,not_false_eq_true,bS]))
      ·refine go 15 ?_;refine a0p (c7q _ _ l hv0 hl6 (c7J e) none 0 ⟨_,rfl,RdS.nil'⟩ g4 cg4 hsrt) rfl rfl fun v79 I79 j79 q79=>?_;obtain⟨w79,rfl,⟨B79,d79,rfl,hw79⟩⟩:=q79;refine go 3 ?_;refine a1A ?_;refine go 7 ?_;exact q_i (StIs.put (by simp only[a0g,h28,p42,a3B,h43,p56,p64,Bool.true_eq_false,Bool.true_eq_false,decide_true,decide_false,Int.reduceEq,reduceIte,if_true,if_false,Bool.false_eq_true,not_true,not_false_eq_true,bS]) ⟨B79,d79,rfl,hw79⟩)
   ·refine go 8 fun g15=>?_
    refine go 1 ?_;refine a0Q _ he rfl rfl rfl rfl rfl (Enc.one (α:=Part) (I:=Ig4) (x:=a2U l e) ⟨s11,rfl,hs11⟩) ?_;refine go 4 ?_;refine a6M (α:=Value) (Ix:=(fun s15=>Ig4)) (Lx:=(fun s15=>[(3,.pointer (some ⟨g3,0,none⟩)),(4,.pointer (some ⟨g4,0,none⟩)),(5,.pointer (some ⟨g5,0,none⟩)),(6,.pointer (some ⟨g6,0,none⟩)),(9,.func (.func 123) #[] #[.pointer (some ⟨g4,0,none⟩)]),(10,.func (.func 126) #[] #[]),(11,.pointer (some ⟨g11,0,none⟩)),(12,.bool (a0f l e.part).isSome),(15,.pointer (some ⟨g15,0,none⟩)),(16,.bool (a7n l e).isSome)])) (Hx:=(fun s15=>[.blk g15 85 ((a7o l e).cells s15),.blk g11 85 ((a2U l e).cells s11),.blk g6 62 [.slice none 0 0],.blk g5 130 e.cells,.blk g3 24 [vc]])) (p:=(fun s15=>RdS Ig4 s15 (a7o l e).props)) ?_ ?_
    ·refine gC 7 (fun h86 p86=>?_) fun h86 p86=>?_
     ·refine go 5 ?_;refine a0d ?_;refine a7V (c4M _ _ l hv0 m31 kvs hIx e.into) rfl rfl fun v91 q91=>?_;obtain⟨vs15,rfl,s15,rfl,hs15⟩:=q91;refine go 4 ?_;refine a0b ?_;refine a0Q _ he rfl rfl rfl rfl rfl (Enc.one (α:=Part) (I:=Ig4) (x:=(a0f l e.into).getD zPart) ⟨s15,rfl,hs15⟩) ?_;refine go 3 ?_;refine a0b ?_;refine a0a ?_;refine a0d ?_;refine a0a ?_;exact a2n s15 (by simp only[a7o,a7n,p86,if_true];exact hs15) ⟨rfl,rfl,rfl,rfl,rfl,rfl,rfl,rfl,rfl,(by simp only[a7n,p86,if_true,if_false];rfl),trivial⟩ (by simp only[a7o,a7n,p86,if_true,if_false];rfl) rfl
     ·refine go 2 ?_;refine a0d ?_;refine a0a ?_;refine a0d ?_;refine a0a ?_;exact a2n s11 (by simp only[a7o,a7n,p86,if_false];exact hs11) ⟨rfl,rfl,rfl,rfl,rfl,rfl,rfl,rfl,rfl,(by simp only[a7n,p86,if_true,if_false];rfl),trivial⟩ (by simp only[a7o,a7n,p86,if_true,if_false];rfl) rfl
    ·intro s15 hs15;refine gS 6 96 (fun h96 p96=>?_) fun h96 p96=>?_
     ·refine go 10 ?_;refine cV (a3T _ 2) ?_;refine go 3 ?_;refine a0d ?_;refine go 7 ?_;exact q_i (StIs.fail (by simp only[a0g,h28,p42,a0F,h96,Bool.true_eq_false,decide_true,decide_false,Int.reduceEq,reduceIte,if_true,if_false,Bool.false_eq_true,not_true,not_false_eq_true,bS]))
     ·refine gC 5 (fun h99 p99=>?_) fun h99 p99=>?_
      ·refine go 4 ?_;refine cV (a3T _ 2) ?_;refine go 3 ?_;refine a0d ?_;refine go 7 ?_;exact q_i (StIs.fail (by simp only[a0g,h28,p42,a0F,h96,h99,Bool.true_eq_false,decide_true,decide_false,Int.reduceEq,reduceIte,if_true,if_false,Bool.false_eq_true,not_true,not_false_eq_true,bS]))
      ·have hmem:a2U l e∈l:=b0b (by simpa using h96);refine gS 8 106 (fun h106 p106=>?_) fun h106 p106=>?_
       ·refine go 10 ?_;refine cV (a3T _ 5) ?_;refine go 3 ?_;refine a0d ?_;refine go 7 ?_;exact q_i (StIs.fail (by simp only[a0g,h28,p42,a0F,h96,h99,h106,Bool.true_eq_false,decide_true,decide_false,Int.reduceEq,reduceIte,if_true,if_false,Bool.false_eq_true,not_true,not_false_eq_true,bS]))
       ·refine gC 5 (fun h109 p109=>?_) fun h109 p109=>?_
        ·refine go 4 ?_;refine cV (a3T _ 5) ?_;refine go 3 ?_;refine a0d ?_;refine go 7 ?_;exact q_i (StIs.fail (by simp only[a0g,h28,p42,a0F,h96,h99,h106,h109,Bool.true_eq_false,decide_true,decide_false,Int.reduceEq,reduceIte,if_true,if_false,Bool.false_eq_true,not_true,not_false_eq_true,bS]))
        ·refine go 14 ?_;refine a1n (a9q _ vc c hvc (a2U l e).kind) rfl rfl fun v119 q119=>?_;obtain⟨vs18,rfl,s18,rfl,hs18⟩:=q119;refine go 5 fun g18=>?_
         refine go 1 ?_;refine a0Q _ he rfl rfl rfl rfl rfl (Enc.one (α:=Kind) (I:=Ig4) (x:=a5t c l e) ⟨s18,rfl,hs18⟩) ?_;refine go 4 ?_;refine c0i (Ix:=(fun J p2 s2=>J)) (Lx:=(fun J p2 s2=>[(6,.pointer (some ⟨g6,0,none⟩)),(9,.func (.func 123) #[] #[.pointer (some ⟨g4,0,none⟩)]),(11,.pointer (some ⟨g11,0,none⟩))])) (Hx:=(fun J p2 s2=>[.blk g11 85 (p2.cells s2),.blk g6 62 [.slice none 0 0]])) (p:=(fun J p2 s2=>ILe Ig4 J∧RdS J s2 p2.props∧a0g c l e=b9k l p2)) ?_ ?_
         ·refine gC 13 (fun h124 p124=>?_) fun h124 p124=>?_
          ·refine gS 7 129 (fun h129 p129=>?_) fun h129 p129=>?_
           ·refine go 18 ?_;refine cV (a3T _ 4) ?_;refine go 3 ?_;refine a0u ?_;refine go 10 ?_;exact q_i (StIs.fail (by simp only[a0g,h28,p42,a0F,a1M,a1p,a0D,a1k,a0Y,a0M,a0N,a1c,a5t,a4w,p28,p42,p96,p99,p106,p109,p124,p129,h96,h99,h106,h109,h124,h129,Bool.true_eq_false,decide_true,decide_false,Int.reduceEq,reduceIte,if_true,if_false,Bool.false_eq_true,not_true,not_false_eq_true,bS]))
           ·refine go 8 ?_;refine a0q rfl rfl h129 (a0v (b6B _ vc c hvc (a7o l e).kind e.slot (a2U l e).kind) rfl rfl ?_);refine gC 5 (fun h126 p126=>?_) fun h126 p126=>?_
            ·refine go 4 ?_;refine cV (a3T _ 4) ?_;refine go 3 ?_;refine a0u ?_;refine go 10 ?_;exact q_i (StIs.fail (by simp only[a0g,h28,p42,a0F,a1M,a1p,a0D,a1k,a0Y,a0M,a0N,a1c,a5t,a4w,p28,p42,p96,p99,p106,p109,p124,p129,p126,h96,h99,h106,h109,h124,h129,h126,Bool.true_eq_false,decide_true,decide_false,Int.reduceEq,reduceIte,if_true,if_false,Bool.false_eq_true,not_true,not_false_eq_true,bS]))
            ·refine gC 8 (fun h144 p144=>?_) fun h144 p144=>?_
             ·refine go 4 ?_;refine cV (a3T _ 5) ?_;refine go 3 ?_;refine a0u ?_;refine go 10 ?_;exact q_i (StIs.fail (by simp only[a0g,h28,p42,a0F,a1M,a1p,a0D,a1k,a0Y,a0M,a0N,a1c,a5t,a4w,p28,p42,p96,p99,p106,p109,p124,p129,p126,p144,h96,h99,h106,h109,h124,h129,h126,h144,Bool.true_eq_false,decide_true,decide_false,Int.reduceEq,reduceIte,if_true,if_false,Bool.false_eq_true,not_true,not_false_eq_true,bS]))
             ·refine go 3 ?_;refine a1A ?_;refine a0B fun Ig5 jg5 cg5=>?_;have hvc:=hvc.le jg5;have hv0:=hv0.le jg5;have cg4:=cg4.le jg5;have hs11:=hs11.le jg5;have hs18:=hs18.le jg5;refine go 2 ?_;refine cV (c7r _ _ l hv0 g4 cg4 _ [.pointer (some ⟨g5,0,none⟩)] (fun x=>decide (x.into=e.into)&&decide (x.slot=e.slot)) (fun x hx vs hr=>d1O _ x vs hr g5 e cg5)) ?_;refine gC 3 (fun h152 p152=>?_) fun h152 p152=>?_
              ·refine go 4 ?_;refine cV (a3T _ 6) ?_;refine go 3 ?_;refine a0u ?_;refine go 10 ?_;exact q_i (StIs.fail (by simp only[a0g,h28,p42,a0F,a1M,a1p,a0D,a1k,a0Y,a0M,a0N,a1c,a5t,a4w,p28,p42,p96,p99,p106,p109,p124,p129,p126,p144,p152,h96,h99,h106,h109,h124,h129,h126,h144,h152,Bool.true_eq_false,decide_true,decide_false,Int.reduceEq,reduceIte,if_true,if_false,Bool.false_eq_true,not_true,not_false_eq_true,bS]))
              ·refine go 3 ?_;refine a0d ?_;refine ds1 ?_;refine dG 0 1 ?_;refine a0I 1 rfl rfl (by kernel_rfl) rfl (.cons _ (.refl _)) rfl (a0H he rfl (cg5 4 _ rfl)) ?_;refine dG 2 1 ?_;refine a0I 3 rfl rfl (by kernel_rfl) rfl (.cons _ (.refl _)) rfl (a0H he rfl (cg5 5 _ rfl)) ?_;refine dH 4 1 ?_;refine go 1 ?_;refine dH 6 1 ?_;refine go 5 ?_;refine a0b ?_;refine a0a ?_;refine a0b ?_;refine a0a ?_;refine a0d ?_;refine a0a ?_;exact a5j (_) ({ a2U l e with into:=e.into,slot:=e.slot }) (_) ⟨jg5,hs11,by simp only[a0g,h28,p42,a0F,h96,h99,h106,h109,a1M,a1p,a0D,a1k,a0Y,a0M,a0N,a1c,a5t,a4w,a2d,p28,p42,p96,p99,p106,p109,p124,p129,p126,p144,p152,h96,h99,h106,h109,h124,h129,h126,h144,h152,Bool.true_eq_false,decide_true,decide_false,Int.reduceEq,reduceIte,if_true,if_false,Bool.false_eq_true,not_true,not_false_eq_true,bS]⟩ sb rfl rfl
          ·refine gC 6 (fun h166 p166=>?_) fun h166 p166=>?_
           ·refine gC 8 (fun h170 p170=>?_) fun h170 p170=>?_
            ·refine go 4 ?_;refine cV (a3T _ 5) ?_;refine go 3 ?_;refine a0u ?_;refine go 9 ?_;exact q_i (StIs.fail (by simp only[a0g,h28,p42,a0F,a1M,a1p,a0D,a1k,a0Y,a0M,a0N,a1c,a5t,a4w,p28,p42,p96,p99,p106,p109,p124,p166,p170,h96,h99,h106,h109,h124,h166,h170,Bool.true_eq_false,decide_true,decide_false,Int.reduceEq,reduceIte,if_true,if_false,Bool.false_eq_true,not_true,not_false_eq_true,bS]))
            ·refine go 5 ?_;refine a0d ?_;refine go 7 ?_;refine a0b ?_;refine a0a ?_;refine a0b ?_;refine a0a ?_;refine a0d ?_;refine a0a ?_;refine a0d ?_;refine a0a ?_;exact a5j (_) ({ a2U l e with into:=a0O,slot:=a0O }) (_) ⟨ILe.refl _,hs11,by simp only[a0g,h28,p42,a0F,h96,h99,h106,h109,a1M,a1p,a0D,a1k,a0Y,a0M,a0N,a1c,a5t,a4w,a2d,p28,p42,p96,p99,p106,p109,p124,p166,p170,h96,h99,h106,h109,h124,h166,h170,Bool.true_eq_false,decide_true,decide_false,Int.reduceEq,reduceIte,if_true,if_false,Bool.false_eq_true,not_true,not_false_eq_true,bS]⟩ sb rfl rfl
           ·refine gC 6 (fun h177 p177=>?_) fun h177 p177=>?_
            ·refine gC 7 (fun h181 p181=>?_) fun h181 p181=>?_
             ·refine go 4 ?_;refine cV (a3T _ 4) ?_;refine go 3 ?_;refine a0u ?_;refine go 8 ?_;exact q_i (StIs.fail (by simp only[a0g,h28,p42,a0F,a1M,a1p,a0D,a1k,a0Y,a0M,a0N,a1c,a5t,a4w,p28,p42,p96,p99,p106,p109,p124,p166,p177,p181,h96,h99,h106,h109,h124,h166,h177,h181,Bool.true_eq_false,decide_true,decide_false,Int.reduceEq,reduceIte,if_true,if_false,Bool.false_eq_true,not_true,not_false_eq_true,bS]))
             ·refine go 3 ?_;refine a0a ?_;refine a0a ?_;refine a0d ?_;refine a0a ?_;refine a0d ?_;refine a0a ?_;exact a5j (_) (a2U l e) (_) ⟨ILe.refl _,hs11,by simp only[a0g,h28,p42,a0F,h96,h99,h106,h109,a1M,a1p,a0D,a1k,a0Y,a0M,a0N,a1c,a5t,a4w,a2d,p28,p42,p96,p99,p106,p109,p124,p166,p177,p181,h96,h99,h106,h109,h124,h166,h177,h181,Bool.true_eq_false,decide_true,decide_false,Int.reduceEq,reduceIte,if_true,if_false,Bool.false_eq_true,not_true,not_false_eq_true,bS]⟩ sb rfl rfl
            ·refine gC 6 (fun h186 p186=>?_) fun h186 p186=>?_
             ·refine go 5 ?_;refine o_v rfl (a5s rfl rfl) ?_;refine go 3 ?_;refine a0d ?_;refine go 7 ?_;refine a0b ?_;refine a0a ?_;refine a0b ?_;refine a0a ?_;refine a0d ?_;refine a0a ?_;refine a0d ?_;refine a0a ?_;exact a5j (_) (a2d e (a2U l e)) (_) ⟨ILe.refl _,hs11,by simp only[a0g,h28,p42,a0F,h96,h99,h106,h109,a1M,a1p,a0D,a1k,a0Y,a0M,a0N,a1c,a5t,a4w,a2d,p28,p42,p96,p99,p106,p109,p124,p166,p177,p186,h96,h99,h106,h109,h124,h166,h177,h186,Bool.true_eq_false,decide_true,decide_false,Int.reduceEq,reduceIte,if_true,if_false,Bool.false_eq_true,not_true,not_false_eq_true,bS]⟩ sb rfl rfl
             ·refine gC 6 (fun h196 p196=>?_) fun h196 p196=>?_
              ·refine go 10 ?_;refine a0p (d0x _ s11 (a2U l e).props hs11 (by have:=(b0t hV.1 hmem).2;omega) ⟨e.key,e.value⟩ rfl _ Prp.key (fun J hJ y vs hr=>d1P J y vs hr) (b0t hV.1 hmem).1) rfl rfl fun v205 I205 j205 q205=>?_;obtain⟨B205,d205,rfl,h205⟩:=q205;refine go 2 ?_;refine a0d ?_;refine gC 11 (fun h210 p210=>?_) fun h210 p210=>?_
               ·refine go 4 ?_;refine cV (a3T _ 7) ?_;refine go 3 ?_;refine a0u ?_;refine go 8 ?_;exact q_i (StIs.fail (by simp only[a0g,h28,p42,a0F,a1M,a1p,a0D,a1k,a0Y,a0M,a0N,a1c,a5t,a4w,p28,p42,p96,p99,p106,p109,p124,p166,p177,p186,p196,p210,h96,h99,h106,h109,h124,h166,h177,h186,h196,h210,Bool.true_eq_false,decide_true,decide_false,Int.reduceEq,reduceIte,if_true,if_false,Bool.false_eq_true,not_true,not_false_eq_true,bS]))
               ·refine go 3 ?_;refine a0b ?_;refine a0a ?_;refine a0b ?_;refine a0a ?_;refine a0d ?_;refine a0a ?_;refine a0d ?_;refine a0a ?_;exact a5j (_) (a4w e (a2U l e)) (_) ⟨j205,⟨B205,d205,rfl,h205⟩,by simp only[a0g,h28,p42,a0F,h96,h99,h106,h109,a1M,a1p,a0D,a1k,a0Y,a0M,a0N,a1c,a5t,a4w,a2d,p28,p42,p96,p99,p106,p109,p124,p166,p177,p186,p196,p210,h96,h99,h106,h109,h124,h166,h177,h186,h196,h210,Bool.true_eq_false,decide_true,decide_false,Int.reduceEq,reduceIte,if_true,if_false,Bool.false_eq_true,not_true,not_false_eq_true,bS]⟩ sb rfl rfl
              ·refine gC 6 (fun h215 p215=>?_) fun h215 p215=>?_
               ·refine gS 7 220 (fun h220 p220=>?_) fun h220 p220=>?_
                ·refine go 11 ?_;refine cV (a3T _ 5) ?_;refine go 3 ?_;refine a0u ?_;refine go 9 ?_;exact q_i (StIs.fail (by simp only[a0g,h28,p42,a0F,a1M,a1p,a0D,a1k,a0Y,a0M,a0N,a1c,a5t,a4w,p28,p42,p96,p99,p106,p109,p124,p166,p177,p186,p196,p215,p220,h96,h99,h106,h109,h124,h166,h177,h186,h196,h215,h220,Bool.true_eq_false,decide_true,decide_false,Int.reduceEq,reduceIte,if_true,if_false,Bool.false_eq_true,not_true,not_false_eq_true,bS]))
                ·refine go 3 ?_;refine a0q rfl rfl h220 (c9X m2 (fun I2 hI2 c2=>c7r I2 _ l (hv0.le hI2) g4 (cg4.le hI2) _ [.pointer (some ⟨g11,0,none⟩)] (fun x=>decide (x.into=(a2U l e).name)) (fun x hx vs hr=>d1Q I2 x vs hr g11 _ _ c2)) rfl rfl ?_);refine gC 3 (fun h224 p224=>?_) fun h224 p224=>?_
                 ·refine go 4 ?_;refine cV (a3T _ 5) ?_;refine go 3 ?_;refine a0u ?_;refine go 9 ?_;exact q_i (StIs.fail (by simp only[a0g,h28,p42,a0F,a1M,a1p,a0D,a1k,a0Y,a0M,a0N,a1c,a5t,a4w,p28,p42,p96,p99,p106,p109,p124,p166,p177,p186,p196,p215,p220,p224,h96,h99,h106,h109,h124,h166,h177,h186,h196,h215,h220,h224,Bool.true_eq_false,decide_true,decide_false,Int.reduceEq,reduceIte,if_true,if_false,Bool.false_eq_true,not_true,not_false_eq_true,bS]))
                 ·refine go 5 ?_;refine a0d ?_;refine go 4 ?_;refine a0b ?_;refine a0a ?_;refine a0b ?_;refine a0a ?_;refine a0d ?_;refine a0a ?_;refine a0d ?_;refine a0a ?_;exact a5j (_) ({ a2U l e with scrapped:=true }) (_) ⟨ILe.refl _,hs11,by simp only[a0g,h28,p42,a0F,h96,h99,h106,h109,a1M,a1p,a0D,a1k,a0Y,a0M,a0N,a1c,a5t,a4w,a2d,p28,p42,p96,p99,p106,p109,p124,p166,p177,p186,p196,p215,p220,p224,h96,h99,h106,h109,h124,h166,h177,h186,h196,h215,h220,h224,Bool.true_eq_false,decide_true,decide_false,Int.reduceEq,reduceIte,if_true,if_false,Bool.false_eq_true,not_true,not_false_eq_true,bS]⟩ sb rfl rfl
               ·refine go 3 ?_;refine a0a ?_;refine a0a ?_;refine a0d ?_;refine a0a ?_;refine a0d ?_;refine a0a ?_;exact a5j (_) (a2U l e) (_) ⟨ILe.refl _,hs11,by simp only[a0g,h28,p42,a0F,h96,h99,h106,h109,a1M,a1p,a0D,a1k,a0Y,a0M,a0N,a1c,a5t,a4w,a2d,p28,p42,p96,p99,p106,p109,p124,p166,p177,p186,p196,p215,h96,h99,h106,h109,h124,h166,h177,h186,h196,h215,Bool.true_eq_false,decide_true,decide_false,Int.reduceEq,reduceIte,if_true,if_false,Bool.false_eq_true,not_true,not_false_eq_true,bS]⟩ sb rfl rfl
         ·rintro J p2 s2 ⟨hJ,⟨B2,d2,rfl,hB2⟩,hA⟩;refine go 5 ?_;refine a0p (c7q _ _ l (hv0.le hJ) hl6 p2 B2 d2 ⟨_,rfl,B2,d2,rfl,hB2⟩ g4 (cg4.le hJ) hsrt) rfl rfl fun v232 I232 j232 q232=>?_;obtain⟨w232,rfl,⟨B232,d232,rfl,hw232⟩⟩:=q232;refine go 3 ?_;refine a0b ?_;refine go 6 ?_;exact q_i (StIs.put hA ⟨B232,d232,rfl,hw232⟩)
end Go.Proofs.YtgmkjpafapgccaaGreat
namespace Go.Proofs.YtgmkjpafapgccaaGreat
open Go Go.Sx Tryz
set_option linter.all false
set_option maxRecDepth 20000
set_option maxHeartbeats 4000000
theorem b0o (I:IMap) (l:List Evt) (N:Nat) (hN:l.length=N) (g a b n:Nat) (f:FuncId) (h:a+n≤b) (hb:b+n≤l.length) (hl:l.length≤1000000) :
    FnM prog 351 #[.slice (some ⟨g,0,none⟩) N N,.int .i64 ((a:Nat):Int),.int .i64 ((b:Nat):Int),.int .i64 ((n:Nat):Int),.func (.func f) #[] #[]] I (.blk g 130 (a1o (l)).flatten) (.blk g 130 (a1o (a8T l a b n)).flatten):=by
 refine enter func351 call351 rfl ntmps351 rfl fun w0=>?_;refine go 6 ?_
 refine a0x (α:=Nat) 0 (fun i=>I)
  (fun i=>[(0,.slice (some ⟨g,0,none⟩) N N),(1,.int .i64 ((a:Nat):Int)),(2,.int .i64 ((b:Nat):Int)),(3,.int .i64 ((n:Nat):Int)),(10,.int .i64 ((i:Nat):Int))])
  (fun i=>[.blk g 130 (a1o (a8T l a b i)).flatten])
  (fun i=>i≤n)
  (fun i=>n-i) (Nat.zero_le _) rfl sb rfl ?_
 intro i hi;refine gC 8 (fun h13 p13=>?_) fun h13 p13=>?_
 ·have hlt:i<n:=oM;have hm:=a3z l a b i;have h1:a+i<(a8T l a b i).length:=oM;have h2:b+i<(a8T l a b i).length:=oM;refine go 4 ?_;refine ds1 ?_;refine dG 0 12 ?_;refine a0I 12 rfl rfl (by kernel_rfl) rfl (.cons _ .slnil) rfl (a0m he rfl rfl rfl (b+i) oM oM) ?_;refine dG 14 4 ?_;refine a0I 18 rfl rfl (by kernel_rfl) rfl (.cons _ .slnil) rfl (a0m he rfl rfl rfl (a+i) oM oM) ?_;refine dT2 13 19 ?_ ?_
  ·refine a0t rfl (a1y m0 (a0h _) he rfl (b+i) oM (a1m h2)) ?_;refine dH 19 0 ?_;refine a0t rfl (a1y m0 (a0h _) he rfl (a+i) oM (a1m h1)) ?_;refine go 1 ?_;refine a0I 20 rfl rfl (by kernel_rfl) rfl (.cons _ .slnil) rfl (a0m he rfl rfl rfl (a+i) oM oM) ?_;refine dH 21 0 ?_;refine a1O _ (a+i) (by first|exact a0h _|exact (a0h _).set rfl _) he rfl rfl rfl rfl rfl oM (by simp[a0s];omega) ?_;refine go 1 ?_;refine a0I 22 rfl rfl (by kernel_rfl) rfl (.cons _ .slnil) rfl (a0m he rfl rfl rfl (b+i) oM oM) ?_;refine dH 23 0 ?_;refine a1O _ (b+i) (by first|exact a0h _|exact (a0h _).set rfl _) he rfl rfl rfl rfl rfl oM (by simp[a0s];omega) ?_;refine go 10 ?_;exact a0w (i+1) oM oM rfl sb (by rw[a8T];first|rw[←a4y h1 h2] | rw[←a3F h1 h2 oM])
  ·refine a0t rfl (a1y m0 (a0h _) he rfl (a+i) oM (a1m h1)) ?_;refine dH 13 0 ?_;refine a0t rfl (a1y m0 (a0h _) he rfl (b+i) oM (a1m h2)) ?_;refine go 1 ?_;refine a0I 20 rfl rfl (by kernel_rfl) rfl (.cons _ .slnil) rfl (a0m he rfl rfl rfl (a+i) oM oM) ?_;refine dH 21 0 ?_;refine a1O _ (a+i) (by first|exact a0h _|exact (a0h _).set rfl _) he rfl rfl rfl rfl rfl oM (by simp[a0s];omega) ?_;refine go 1 ?_;refine a0I 22 rfl rfl (by kernel_rfl) rfl (.cons _ .slnil) rfl (a0m he rfl rfl rfl (b+i) oM oM) ?_;refine dH 23 0 ?_;refine a1O _ (b+i) (by first|exact a0h _|exact (a0h _).set rfl _) he rfl rfl rfl rfl rfl oM (by simp[a0s];omega) ?_;refine go 10 ?_;exact a0w (i+1) oM oM rfl sb (by rw[a8T];first|rw[←a4y h1 h2] | rw[←a3F h1 h2 oM])
 ·refine go 5 ?_;obtain rfl:i=n:=oM;exact q_m
theorem c1r (I:IMap) (l:List Evt) (N:Nat) (hN:l.length=N) (g a b:Nat) (f:FuncId) (hp:∀x y:Evt,FnV prog f #[.agg (Day.ch x).toArray,.agg (Day.ch y).toArray] I (.int .i64 (a8F (Day.day x) (Day.day y)))) (hab:a≤b) (hb:b≤l.length) (hl:l.length≤1000000) :
    FnX prog 315 #[.slice (some ⟨g,0,none⟩) N N,.int .i64 ((a:Nat):Int),.int .i64 ((b:Nat):Int),.func (.func f) #[] #[]] I [.blk g 130 (a1o (l)).flatten] (fun u r=>u = .tuple #[]∧∃m,r = .blk g 130 (a1o (m)).flatten∧Seg l m a b):=by
 refine enter func315 call315 rfl ntmps315 rfl fun w0=>?_;refine go 3 ?_;refine o_v rfl (OV.cast (u:=.int .i64 ((a+1:Nat):Int)) (a2h rfl rfl ⟨oM,oM⟩) (congrArg (Value.int .i64) oM)) ?_;refine go 4 ?_
 refine a0L (a+1) (l) (fun i m=>I)
  (fun i m=>[(0,.slice (some ⟨g,0,none⟩) N N),(1,.int .i64 ((a:Nat):Int)),(2,.int .i64 ((b:Nat):Int)),(3,.func (.func f) #[] #[]),(8,.int .i64 ((i:Nat):Int))])
  (fun i m=>[.blk g 130 (a1o (m)).flatten])
  (fun i m=>a+1≤i∧(i≤b∨(m=l∧i=a+1))∧Seg l m a i)
  (fun i m=>b-i) ⟨Nat.le_refl _,.inr ⟨rfl,rfl⟩,Seg.one l a⟩ rfl sb rfl ?_
 intro i m ⟨h1,h2,hs⟩;refine gC 8 (fun h14 p14=>?_) fun h14 p14=>?_
 ·have hlt:i<b:=oM;refine go 11 ?_
  refine a0L (i) (m) (fun j k=>I)
   (fun j k=>[(0,.slice (some ⟨g,0,none⟩) N N),(1,.int .i64 ((a:Nat):Int)),(2,.int .i64 ((b:Nat):Int)),(3,.func (.func f) #[] #[]),(8,.int .i64 ((i:Nat):Int)),(9,.int .i64 ((j:Nat):Int))])
   (fun j k=>[.blk g 130 (a1o (k)).flatten])
   (fun j k=>a≤j∧j≤i∧Ins l k a i j)
   (fun j k=>j) ⟨oM,Nat.le_refl _,Ins.start hs⟩ rfl sb rfl ?_
  intro j k ⟨hj1,hj2,hk⟩;have hkl:=hk.len;refine go 3 ?_;refine dG 0 4 ?_;refine gS 0 21 (fun h21 p21=>?_) fun h21 p21=>?_
  ·have hjk:j<k.length:=oM;have hjk1:j-1<k.length:=oM;refine dG 4 3 ?_;refine d_t 7 rfl rfl (by kernel_rfl) rfl (fun _ m=>m.keeps (.refl _)) (a2V rfl rfl h21 (a0m he rfl rfl rfl (j) oM oM)) ?_;refine d_t 8 rfl rfl (by kernel_rfl) rfl (fun _ m=>m.keeps (.refl _)) (a2V rfl rfl h21 (a1y m0 (a0h _) he rfl (j) oM (a1m hjk))) ?_;refine dG 9 3 ?_;refine d_t 12 rfl rfl (by kernel_rfl) rfl (fun _ m=>m.keeps (.refl _)) (a2V rfl rfl h21 (a0m he rfl rfl rfl (j-1) oM oM)) ?_;refine d_t 13 rfl rfl (by kernel_rfl) rfl (fun _ m=>m.keeps (.refl _)) (a2V rfl rfl h21 (a1y m0 (a0h _) he rfl (j-1) oM (a1m hjk1))) ?_;refine dH 14 0 ?_;refine a0q rfl rfl h21 (a0v (hp _ _) rfl rfl ?_);refine dG 15 2 ?_;refine gC 2 (fun h34 p34=>?_) fun h34 p34=>?_
   ·refine go 4 ?_;refine ds1 ?_;refine dG 0 8 ?_;refine a0I 8 rfl rfl (by kernel_rfl) rfl (.cons _ .slnil) rfl (a0m he rfl rfl rfl (j-1) oM oM) ?_;refine dG 10 2 ?_;refine a0I 12 rfl rfl (by kernel_rfl) rfl (.cons _ .slnil) rfl (a0m he rfl rfl rfl (j) oM oM) ?_;refine dT2 9 13 ?_ ?_
    ·refine a0t rfl (a1y m0 (a0h _) he rfl (j-1) oM (a1m hjk1)) ?_;refine dH 13 0 ?_;refine a0t rfl (a1y m0 (a0h _) he rfl (j) oM (a1m hjk)) ?_;refine go 1 ?_;refine a0I 14 rfl rfl (by kernel_rfl) rfl (.cons _ .slnil) rfl (a0m he rfl rfl rfl (j) oM oM) ?_;refine dH 15 0 ?_;refine a1O _ (j) (by first|exact a0h _|exact (a0h _).set rfl _) he rfl rfl rfl rfl rfl oM (by simp[a0s];omega) ?_;refine go 1 ?_;refine a0I 16 rfl rfl (by kernel_rfl) rfl (.cons _ .slnil) rfl (a0m he rfl rfl rfl (j-1) oM oM) ?_;refine dH 17 0 ?_;refine a1O _ (j-1) (by first|exact a0h _|exact (a0h _).set rfl _) he rfl rfl rfl rfl rfl oM (by simp[a0s];omega) ?_;refine go 6 ?_;refine o_v rfl (OV.cast (u:=.int .i64 ((j-1:Nat):Int)) (a1f rfl rfl ⟨oM,oM⟩) (congrArg (Value.int .i64) oM)) ?_;refine go 3 ?_;exact a0n (j-1) (swp k j (j-1)) ⟨oM,oM,hk.step oM oM oM (by have:=p34;simp only[a6P]at this;rw[a0Z oM,a0Z oM];exact this)⟩ oM rfl sb (by first|rw[←a4y (show j<k.length from oM) (show j-1<k.length from oM)] | rw[←a3F (show j<k.length from oM) (show j-1<k.length from oM) oM])
    ·refine a0t rfl (a1y m0 (a0h _) he rfl (j) oM (a1m hjk)) ?_;refine dH 9 0 ?_;refine a0t rfl (a1y m0 (a0h _) he rfl (j-1) oM (a1m hjk1)) ?_;refine go 1 ?_;refine a0I 14 rfl rfl (by kernel_rfl) rfl (.cons _ .slnil) rfl (a0m he rfl rfl rfl (j) oM oM) ?_;refine dH 15 0 ?_;refine a1O _ (j) (by first|exact a0h _|exact (a0h _).set rfl _) he rfl rfl rfl rfl rfl oM (by simp[a0s];omega) ?_;refine go 1 ?_;refine a0I 16 rfl rfl (by kernel_rfl) rfl (.cons _ .slnil) rfl (a0m he rfl rfl rfl (j-1) oM oM) ?_;refine dH 17 0 ?_;refine a1O _ (j-1) (by first|exact a0h _|exact (a0h _).set rfl _) he rfl rfl rfl rfl rfl oM (by simp[a0s];omega) ?_;refine go 6 ?_;refine o_v rfl (OV.cast (u:=.int .i64 ((j-1:Nat):Int)) (a1f rfl rfl ⟨oM,oM⟩) (congrArg (Value.int .i64) oM)) ?_;refine go 3 ?_;exact a0n (j-1) (swp k j (j-1)) ⟨oM,oM,hk.step oM oM oM (by have:=p34;simp only[a6P]at this;rw[a0Z oM,a0Z oM];exact this)⟩ oM rfl sb (by first|rw[←a4y (show j<k.length from oM) (show j-1<k.length from oM)] | rw[←a3F (show j<k.length from oM) (show j-1<k.length from oM) oM])
   ·refine go 12 ?_;exact a0n (i+1) (k) ⟨oM,.inl oM,hk.done oM oM (.inr (by have:=p34;simp only[a6P]at this;rw[a0Z oM,a0Z oM];omega))⟩ oM rfl sb rfl
  ·refine dG 4 13 ?_;refine go 15 ?_;exact a0n (i+1) (k) ⟨oM,.inl oM,hk.done oM oM (.inl oM)⟩ oM rfl sb rfl
 ·refine go 5 ?_;exact q_x (by refine⟨rfl,m,rfl,?_⟩;rcases h2 with h2|⟨rfl,h2⟩;exact (show i=b from oM)▸hs;exact Seg.none oM)
theorem d3T (I:IMap) (l:List Evt) (N:Nat) (hN:l.length=N) (g a m b:Nat) (f:FuncId) (ham:a<m) (hmb:m<b) (hb:b≤l.length) (hl:l.length≤1000000) :
    FnX prog 340 #[.slice (some ⟨g,0,none⟩) N N,.int .i64 ((a:Nat):Int),.int .i64 ((m:Nat):Int),.int .i64 ((b:Nat):Int),.func (.func f) #[] #[]] I [.blk g 130 (a1o (l)).flatten] (fun u r=>u = .tuple #[]∧∃k,r = .blk g 130 (a1o (k)).flatten∧k.length=l.length∧∀q,k[q]? = a8a (l[·]?) m (m-a) (b-m) q):=by
 refine enter func340 call340 rfl ntmps340 rfl fun w0=>?_;refine go 4 ?_;refine o_v rfl (OV.cast (u:=.int .i64 ((m-a:Nat):Int)) (a1f rfl rfl ⟨oM,oM⟩) (congrArg (Value.int .i64) oM)) ?_;refine go 7 ?_;refine o_v rfl (OV.cast (u:=.int .i64 ((b-m:Nat):Int)) (a1f rfl rfl ⟨oM,oM⟩) (congrArg (Value.int .i64) oM)) ?_;refine go 5 ?_
 refine a3k (m-a) (b-m) (l) (fun i j k=>I)
  (fun i j k=>[(0,.slice (some ⟨g,0,none⟩) N N),(1,.int .i64 ((a:Nat):Int)),(2,.int .i64 ((m:Nat):Int)),(3,.int .i64 ((b:Nat):Int)),(4,.func (.func f) #[] #[]),(10,.int .i64 ((i:Nat):Int)),(11,.int .i64 ((j:Nat):Int))])
  (fun i j k=>[.blk g 130 (a1o (k)).flatten])
  (fun i j k=>1≤i∧1≤j∧i≤m∧m+j≤l.length∧k.length=l.length∧∀q,a8a (k[·]?) m i j q=a8a (l[·]?) m (m-a) (b-m) q)
  (fun i j k=>i+j) ⟨oM,oM,oM,oM,rfl,fun q=>rfl⟩ rfl sb rfl ?_
 intro i j k ⟨hi1,hj1,him,hmj,hkl,hk⟩;refine gC 8 (fun h20 p20=>?_) fun h20 p20=>?_
 ·refine gC 10 (fun h23 p23=>?_) fun h23 p23=>?_
  ·refine go 5 ?_;refine o_v rfl (OV.cast (u:=.int .i64 ((m-i:Nat):Int)) (a1f rfl rfl ⟨oM,oM⟩) (congrArg (Value.int .i64) oM)) ?_;refine go 4 ?_;refine a2J (b0o _ k N oM g (m-i) m j f oM oM oM) rfl rfl ?_;refine go 5 ?_;refine o_v rfl (OV.cast (u:=.int .i64 ((i-j:Nat):Int)) (a1f rfl rfl ⟨oM,oM⟩) (congrArg (Value.int .i64) oM)) ?_;refine go 4 ?_;exact a1P (i-j) (j) (a8T k (m-i) m j) ⟨oM,oM,oM,oM,(a3z _ _ _ _).trans hkl,fun q=>(c7R oM oM (a5l _ oM oM) q).trans (hk q)⟩ oM rfl sb rfl
  ·refine go 5 ?_;refine o_v rfl (OV.cast (u:=.int .i64 ((m-i:Nat):Int)) (a1f rfl rfl ⟨oM,oM⟩) (congrArg (Value.int .i64) oM)) ?_;refine go 4 ?_;refine o_v rfl (OV.cast (u:=.int .i64 ((m+j-i:Nat):Int)) (a1f rfl rfl ⟨oM,oM⟩) (congrArg (Value.int .i64) oM)) ?_;refine go 3 ?_;refine a2J (b0o _ k N oM g (m-i) (m+j-i) i f oM oM oM) rfl rfl ?_;refine go 5 ?_;refine o_v rfl (OV.cast (u:=.int .i64 ((j-i:Nat):Int)) (a1f rfl rfl ⟨oM,oM⟩) (congrArg (Value.int .i64) oM)) ?_;refine go 4 ?_;exact a1P (i) (j-i) (a8T k (m-i) (m+j-i) i) ⟨oM,oM,oM,oM,(a3z _ _ _ _).trans hkl,fun q=>(c7S oM oM (a5l _ oM oM) q).trans (hk q)⟩ oM rfl sb rfl
 ·obtain rfl:i=j:=by have:=p20;omega
  refine go 9 ?_;refine o_v rfl (OV.cast (u:=.int .i64 ((m-i:Nat):Int)) (a1f rfl rfl ⟨oM,oM⟩) (congrArg (Value.int .i64) oM)) ?_;refine go 4 ?_;refine a2J (b0o _ k N oM g (m-i) m i f oM oM oM) rfl rfl ?_;refine go 2 ?_;exact q_x ⟨rfl,a8T k (m-i) m i,rfl,(a3z _ _ _ _).trans hkl,fun q=>(c7Q him (a5l _ oM oM) q).trans (hk q)⟩
theorem c3f (I:IMap) (N g:Nat) (f:FuncId) (hp:∀x y:Evt,FnV prog f #[.agg (Day.ch x).toArray,.agg (Day.ch y).toArray] I (.int .i64 (a8F (Day.day x) (Day.day y)))) (hN0:N≤1000000) (W:Nat) (ih:∀(l:List Evt) (a m b:Nat),l.length=N→b-a<W→a<m→m<b→b≤l.length→SrtD l a m→SrtD l m b→FnX prog 316 #[.slice (some ⟨g,0,none⟩) N N,.int .i64 ((a:Nat):Int),.int .i64 ((m:Nat):Int),.int .i64 ((b:Nat):Int),.func (.func f) #[] #[]] I [.blk g 130 (a1o (l)).flatten] (fun u r=>u = .tuple #[]∧∃m,r = .blk g 130 (a1o (m)).flatten∧Seg l m a b)) (l:List Evt) (a m b:Nat) (hN:l.length=N) (hW:b-a≤W) (ham:a<m) (hmb:m<b) (hb:b≤l.length) (m1:SrtD l a m) (m2:SrtD l m b) :
    FnX prog 316 #[.slice (some ⟨g,0,none⟩) N N,.int .i64 ((a:Nat):Int),.int .i64 ((m:Nat):Int),.int .i64 ((b:Nat):Int),.func (.func f) #[] #[]] I [.blk g 130 (a1o (l)).flatten] (fun u r=>u = .tuple #[]∧∃m,r = .blk g 130 (a1o (m)).flatten∧Seg l m a b):=by
 refine enter func316 call316 rfl ntmps316 rfl fun w0=>?_;refine go 5 ?_;refine o_v rfl (OV.cast (u:=.int .i64 ((m-a:Nat):Int)) (a1f rfl rfl ⟨oM,oM⟩) (congrArg (Value.int .i64) oM)) ?_;refine gC 3 (fun h28 p28=>?_) fun h28 p28=>?_
 ·obtain rfl:m=a+1:=oM;refine go 14 ?_
  refine a0L (a+1) (b) (fun i j=>I)
   (fun i j=>[(0,.slice (some ⟨g,0,none⟩) N N),(1,.int .i64 ((a:Nat):Int)),(2,.int .i64 ((a+1:Nat):Int)),(3,.int .i64 ((b:Nat):Int)),(4,.func (.func f) #[] #[]),(10,.int .i64 ((i:Nat):Int)),(11,.int .i64 ((j:Nat):Int))])
   (fun i j=>[.blk g 130 (a1o (l)).flatten])
   (fun i j=>a+1≤i∧i≤j∧j≤b∧(∀q,a+1≤q→q<i→a0r l q<a0r l a)∧(∀q,j≤q→q<b→a0r l a≤a0r l q))
   (fun i j=>j-i) ⟨oM,oM,oM,fun q _ _=>oM,fun q _ _=>oM⟩ rfl sb rfl ?_
  intro i j ⟨hi1,hij,hjb,hlo,hhi⟩;refine gC 8 (fun h33 p33=>?_) fun h33 p33=>?_
  ·have hh:(i+j) / 2<l.length:=oM;have ha0:a<l.length:=oM;refine go 8 ?_;refine o_v rfl (a1K he he rfl (m:=(i:Int)+(j:Int)) (wrap_u64 _ oM oM)) ?_;refine o_v rfl (a6w rfl (by decide)) ?_;refine o_v rfl (a1K he he rfl (m:=(((i+j) / 2:Nat):Int)) (by rw[IntKind.wrap_i64];omega)) ?_;refine go 5 ?_;refine dG 0 3 ?_;refine a0I 3 rfl rfl (by kernel_rfl) rfl (.refl _) rfl (a0m he rfl rfl rfl ((i+j) / 2) oM oM) ?_;refine a0I 4 rfl rfl (by kernel_rfl) rfl (.refl _) rfl (a1y m0 (a0h _) he rfl ((i+j) / 2) oM (a1m hh)) ?_;refine dG 5 2 ?_;refine a0I 7 rfl rfl (by kernel_rfl) rfl (.refl _) rfl (a0m he rfl rfl rfl (a) oM oM) ?_;refine a0I 8 rfl rfl (by kernel_rfl) rfl (.refl _) rfl (a1y m0 (a0h _) he rfl (a) oM (a1m ha0)) ?_;refine dH 9 0 ?_;refine cV (hp _ _) ?_;refine dG 10 1 ?_;refine gC 2 (fun h50 p50=>?_) fun h50 p50=>?_
   ·refine go 7 ?_;exact a0n ((i+j) / 2+1) (j) ⟨oM,oM,oM,fun q q1 q2=>by have:=m2.le (p:=q) (q:=(i+j) / 2) q1 oM oM;have:=c0C p50;omega,hhi⟩ oM rfl sb rfl
   ·refine go 6 ?_;exact a0n (i) ((i+j) / 2) ⟨oM,oM,oM,hlo,fun q q1 q2=>by have:=m2.le (p:=(i+j) / 2) (q:=q) oM q1 q2;have:=c0B p50;omega⟩ oM rfl sb rfl
  ·obtain rfl:i=j:=oM;refine go 13 ?_
   refine a0x (α:=Nat) 0 (fun t=>I)
    (fun t=>[(0,.slice (some ⟨g,0,none⟩) N N),(1,.int .i64 ((a:Nat):Int)),(2,.int .i64 ((a+1:Nat):Int)),(3,.int .i64 ((b:Nat):Int)),(4,.func (.func f) #[] #[]),(10,.int .i64 ((i:Nat):Int)),(13,.int .i64 ((a+t:Nat):Int))])
    (fun t=>[.blk g 130 (a1o (bub l a t)).flatten])
    (fun t=>a+t+1≤i)
    (fun t=>i-t) oM rfl sb rfl ?_
   intro t ht;refine go 5 ?_;refine o_v rfl (OV.cast (u:=.int .i64 ((i-1:Nat):Int)) (a1f rfl rfl ⟨oM,oM⟩) (congrArg (Value.int .i64) oM)) ?_;refine gC 3 (fun h58 p58=>?_) fun h58 p58=>?_
   ·have hbl:=a9l l a t;have hk1:a+t<(bub l a t).length:=oM;have hk2:a+t+1<(bub l a t).length:=oM;refine go 4 ?_;refine ds1 ?_;refine dG 0 4 ?_;refine a0I 4 rfl rfl (by kernel_rfl) rfl (.cons _ .slnil) rfl (OV.cast (u:=.int .i64 ((a+t+1:Nat):Int)) (a2h rfl rfl ⟨oM,oM⟩) (congrArg (Value.int .i64) oM)) ?_;refine dG 5 2 ?_;refine a0I 7 rfl rfl (by kernel_rfl) rfl (.cons _ .slnil) rfl (OV.cast (u:=.int .i64 ((a+t+1:Nat):Int)) (a2h rfl rfl ⟨oM,oM⟩) (congrArg (Value.int .i64) oM)) ?_;refine a0I 8 rfl rfl (by kernel_rfl) rfl (.cons _ .slnil) rfl (a0m he rfl rfl rfl (a+t+1) oM oM) ?_;refine dG 10 2 ?_;refine a0I 12 rfl rfl (by kernel_rfl) rfl (.cons _ .slnil) rfl (a0m he rfl rfl rfl (a+t) oM oM) ?_;refine dT2 9 13 ?_ ?_
    ·refine a0t rfl (a1y m0 (a0h _) he rfl (a+t+1) oM (a1m hk2)) ?_;refine dH 13 0 ?_;refine a0t rfl (a1y m0 (a0h _) he rfl (a+t) oM (a1m hk1)) ?_;refine go 1 ?_;refine a0I 14 rfl rfl (by kernel_rfl) rfl (.cons _ .slnil) rfl (a0m he rfl rfl rfl (a+t) oM oM) ?_;refine dH 15 0 ?_;refine a1O _ (a+t) (by first|exact a0h _|exact (a0h _).set rfl _) he rfl rfl rfl rfl rfl oM (by simp[a0s];omega) ?_;refine go 1 ?_;refine a0I 16 rfl rfl (by kernel_rfl) rfl (.cons _ .slnil) rfl (a0m he rfl rfl rfl (a+t+1) oM oM) ?_;refine dH 17 0 ?_;refine a1O _ (a+t+1) (by first|exact a0h _|exact (a0h _).set rfl _) he rfl rfl rfl rfl rfl oM (by simp[a0s];omega) ?_;refine go 6 ?_;refine o_v rfl (OV.cast (u:=.int .i64 ((a+(t+1):Nat):Int)) (a2h rfl rfl ⟨oM,oM⟩) (congrArg (Value.int .i64) oM)) ?_;refine go 3 ?_;exact a0w (t+1) oM oM rfl sb (by rw[bub];first|rw[←a4y hk1 hk2] | rw[←a3F hk1 hk2 oM])
    ·refine a0t rfl (a1y m0 (a0h _) he rfl (a+t) oM (a1m hk1)) ?_;refine dH 9 0 ?_;refine a0t rfl (a1y m0 (a0h _) he rfl (a+t+1) oM (a1m hk2)) ?_;refine go 1 ?_;refine a0I 14 rfl rfl (by kernel_rfl) rfl (.cons _ .slnil) rfl (a0m he rfl rfl rfl (a+t) oM oM) ?_;refine dH 15 0 ?_;refine a1O _ (a+t) (by first|exact a0h _|exact (a0h _).set rfl _) he rfl rfl rfl rfl rfl oM (by simp[a0s];omega) ?_;refine go 1 ?_;refine a0I 16 rfl rfl (by kernel_rfl) rfl (.cons _ .slnil) rfl (a0m he rfl rfl rfl (a+t+1) oM oM) ?_;refine dH 17 0 ?_;refine a1O _ (a+t+1) (by first|exact a0h _|exact (a0h _).set rfl _) he rfl rfl rfl rfl rfl oM (by simp[a0s];omega) ?_;refine go 6 ?_;refine o_v rfl (OV.cast (u:=.int .i64 ((a+(t+1):Nat):Int)) (a2h rfl rfl ⟨oM,oM⟩) (congrArg (Value.int .i64) oM)) ?_;refine go 3 ?_;exact a0w (t+1) oM oM rfl sb (by rw[bub];first|rw[←a4y hk1 hk2] | rw[←a3F hk1 hk2 oM])
   ·refine go 8 ?_;exact q_x ⟨rfl,_,rfl,(show i-1-a=t from oM)▸b7g m2 hi1 hjb hb hlo hhi⟩
 ·have hma:a+2≤m:=oM;refine go 7 ?_;refine o_v rfl (OV.cast (u:=.int .i64 ((b-m:Nat):Int)) (a1f rfl rfl ⟨oM,oM⟩) (congrArg (Value.int .i64) oM)) ?_;refine gC 3 (fun h80 p80=>?_) fun h80 p80=>?_
  ·obtain rfl:b=m+1:=oM;refine go 14 ?_
   refine a0L (a) (m) (fun i j=>I)
    (fun i j=>[(0,.slice (some ⟨g,0,none⟩) N N),(1,.int .i64 ((a:Nat):Int)),(2,.int .i64 ((m:Nat):Int)),(3,.int .i64 ((m+1:Nat):Int)),(4,.func (.func f) #[] #[]),(14,.int .i64 ((i:Nat):Int)),(15,.int .i64 ((j:Nat):Int))])
    (fun i j=>[.blk g 130 (a1o (l)).flatten])
    (fun i j=>a≤i∧i≤j∧j≤m∧(∀q,a≤q→q<i→a0r l q≤a0r l m)∧(∀q,j≤q→q<m→a0r l m<a0r l q))
    (fun i j=>j-i) ⟨oM,oM,oM,fun q _ _=>oM,fun q _ _=>oM⟩ rfl sb rfl ?_
   intro i j ⟨hi1,hij,hjb,hlo,hhi⟩;refine gC 8 (fun h85 p85=>?_) fun h85 p85=>?_
   ·have hh:(i+j) / 2<l.length:=oM;have hm0:m<l.length:=oM;refine go 8 ?_;refine o_v rfl (a1K he he rfl (m:=(i:Int)+(j:Int)) (wrap_u64 _ oM oM)) ?_;refine o_v rfl (a6w rfl (by decide)) ?_;refine o_v rfl (a1K he he rfl (m:=(((i+j) / 2:Nat):Int)) (by rw[IntKind.wrap_i64];omega)) ?_;refine go 5 ?_;refine dG 0 3 ?_;refine a0I 3 rfl rfl (by kernel_rfl) rfl (.refl _) rfl (a0m he rfl rfl rfl (m) oM oM) ?_;refine a0I 4 rfl rfl (by kernel_rfl) rfl (.refl _) rfl (a1y m0 (a0h _) he rfl (m) oM (a1m hm0)) ?_;refine dG 5 2 ?_;refine a0I 7 rfl rfl (by kernel_rfl) rfl (.refl _) rfl (a0m he rfl rfl rfl ((i+j) / 2) oM oM) ?_;refine a0I 8 rfl rfl (by kernel_rfl) rfl (.refl _) rfl (a1y m0 (a0h _) he rfl ((i+j) / 2) oM (a1m hh)) ?_;refine dH 9 0 ?_;refine cV (hp _ _) ?_;refine dG 10 2 ?_;refine gC 2 (fun h103 p103=>?_) fun h103 p103=>?_
    ·refine go 7 ?_;exact a0n ((i+j) / 2+1) (j) ⟨oM,oM,oM,fun q q1 q2=>by have:=m1.le (p:=q) (q:=(i+j) / 2) q1 oM oM;have:=c0B p103;omega,hhi⟩ oM rfl sb rfl
    ·refine go 6 ?_;exact a0n (i) ((i+j) / 2) ⟨oM,oM,oM,hlo,fun q q1 q2=>by have:=m1.le (p:=(i+j) / 2) (q:=q) oM q1 q2;have:=c0C p103;omega⟩ oM rfl sb rfl
   ·obtain rfl:i=j:=oM;refine go 13 ?_
    refine a0x (α:=Nat) 0 (fun t=>I)
     (fun t=>[(0,.slice (some ⟨g,0,none⟩) N N),(1,.int .i64 ((a:Nat):Int)),(2,.int .i64 ((m:Nat):Int)),(3,.int .i64 ((m+1:Nat):Int)),(4,.func (.func f) #[] #[]),(14,.int .i64 ((i:Nat):Int)),(17,.int .i64 ((m-t:Nat):Int))])
     (fun t=>[.blk g 130 (a1o (bud l m t)).flatten])
     (fun t=>t+i≤m)
     (fun t=>m-t) oM rfl ⟨rfl,rfl,rfl,rfl,rfl,rfl,congrArg (fun z:Int=>some (Value.int .i64 z)) oM,trivial⟩ rfl ?_
    intro t ht;refine gC 8 (fun h110 p110=>?_) fun h110 p110=>?_
    ·have hbl:=a9m l m t;have hk1:m-t<(bud l m t).length:=oM;have hk2:m-t-1<(bud l m t).length:=oM;refine go 4 ?_;refine ds1 ?_;refine dG 0 4 ?_;refine a0I 4 rfl rfl (by kernel_rfl) rfl (.cons _ .slnil) rfl (OV.cast (u:=.int .i64 ((m-t-1:Nat):Int)) (a1f rfl rfl ⟨oM,oM⟩) (congrArg (Value.int .i64) oM)) ?_;refine dG 5 2 ?_;refine a0I 7 rfl rfl (by kernel_rfl) rfl (.cons _ .slnil) rfl (OV.cast (u:=.int .i64 ((m-t-1:Nat):Int)) (a1f rfl rfl ⟨oM,oM⟩) (congrArg (Value.int .i64) oM)) ?_;refine a0I 8 rfl rfl (by kernel_rfl) rfl (.cons _ .slnil) rfl (a0m he rfl rfl rfl (m-t-1) oM oM) ?_;refine dG 10 2 ?_;refine a0I 12 rfl rfl (by kernel_rfl) rfl (.cons _ .slnil) rfl (a0m he rfl rfl rfl (m-t) oM oM) ?_;refine dT2 9 13 ?_ ?_
     ·refine a0t rfl (a1y m0 (a0h _) he rfl (m-t-1) oM (a1m hk2)) ?_;refine dH 13 0 ?_;refine a0t rfl (a1y m0 (a0h _) he rfl (m-t) oM (a1m hk1)) ?_;refine go 1 ?_;refine a0I 14 rfl rfl (by kernel_rfl) rfl (.cons _ .slnil) rfl (a0m he rfl rfl rfl (m-t) oM oM) ?_;refine dH 15 0 ?_;refine a1O _ (m-t) (by first|exact a0h _|exact (a0h _).set rfl _) he rfl rfl rfl rfl rfl oM (by simp[a0s];omega) ?_;refine go 1 ?_;refine a0I 16 rfl rfl (by kernel_rfl) rfl (.cons _ .slnil) rfl (a0m he rfl rfl rfl (m-t-1) oM oM) ?_;refine dH 17 0 ?_;refine a1O _ (m-t-1) (by first|exact a0h _|exact (a0h _).set rfl _) he rfl rfl rfl rfl rfl oM (by simp[a0s];omega) ?_;refine go 6 ?_;refine o_v rfl (OV.cast (u:=.int .i64 ((m-(t+1):Nat):Int)) (a1f rfl rfl ⟨oM,oM⟩) (congrArg (Value.int .i64) oM)) ?_;refine go 3 ?_;exact a0w (t+1) oM oM rfl sb (by rw[bud];first|rw[←a4y hk1 hk2] | rw[←a3F hk1 hk2 oM])
     ·refine a0t rfl (a1y m0 (a0h _) he rfl (m-t) oM (a1m hk1)) ?_;refine dH 9 0 ?_;refine a0t rfl (a1y m0 (a0h _) he rfl (m-t-1) oM (a1m hk2)) ?_;refine go 1 ?_;refine a0I 14 rfl rfl (by kernel_rfl) rfl (.cons _ .slnil) rfl (a0m he rfl rfl rfl (m-t) oM oM) ?_;refine dH 15 0 ?_;refine a1O _ (m-t) (by first|exact a0h _|exact (a0h _).set rfl _) he rfl rfl rfl rfl rfl oM (by simp[a0s];omega) ?_;refine go 1 ?_;refine a0I 16 rfl rfl (by kernel_rfl) rfl (.cons _ .slnil) rfl (a0m he rfl rfl rfl (m-t-1) oM oM) ?_;refine dH 17 0 ?_;refine a1O _ (m-t-1) (by first|exact a0h _|exact (a0h _).set rfl _) he rfl rfl rfl rfl rfl oM (by simp[a0s];omega) ?_;refine go 6 ?_;refine o_v rfl (OV.cast (u:=.int .i64 ((m-(t+1):Nat):Int)) (a1f rfl rfl ⟨oM,oM⟩) (congrArg (Value.int .i64) oM)) ?_;refine go 3 ?_;exact a0w (t+1) oM oM rfl sb (by rw[bud];first|rw[←a4y hk1 hk2] | rw[←a3F hk1 hk2 oM])
    ·refine go 8 ?_;exact q_x ⟨rfl,_,rfl,(show m-i=t from oM)▸b1q m1 hi1 hjb oM hlo hhi⟩
  ·have hmb2:m+2≤b:=oM;refine go 7 ?_;refine o_v rfl (a1K he he rfl (m:=(a:Int)+(b:Int)) (wrap_u64 _ oM oM)) ?_;refine o_v rfl (a6w rfl (by decide)) ?_;refine o_v rfl (a1K he he rfl (m:=(((a+b) / 2:Nat):Int)) (by rw[IntKind.wrap_i64];omega)) ?_;refine go 7 ?_;refine o_v rfl (OV.cast (u:=.int .i64 ((((a+b) / 2)+m:Nat):Int)) (a2h rfl rfl ⟨oM,oM⟩) (congrArg (Value.int .i64) oM)) ?_;refine go 10 ?_;refine a6z (Ix:=(fun S R=>I)) (Lx:=(fun S R=>[(0,.slice (some ⟨g,0,none⟩) N N),(1,.int .i64 ((a:Nat):Int)),(2,.int .i64 ((m:Nat):Int)),(3,.int .i64 ((b:Nat):Int)),(4,.func (.func f) #[] #[]),(18,.int .i64 ((((a+b) / 2):Nat):Int)),(19,.int .i64 ((((a+b) / 2)+m:Nat):Int)),(20,.int .i64 ((S:Nat):Int)),(21,.int .i64 ((R:Nat):Int))])) (Hx:=(fun S R=>[.blk g 130 (a1o (l)).flatten])) (p:=(fun S R=>(((a+b) / 2)<m∧S=((a+b) / 2)+m-b∧R=((a+b) / 2))∨(m≤((a+b) / 2)∧S=a∧R=m))) ?_ ?_
   ·refine gC 7 (fun h140 p140=>?_) fun h140 p140=>?_
    ·refine go 4 ?_;refine o_v rfl (OV.cast (u:=.int .i64 ((((a+b) / 2)+m-b:Nat):Int)) (a1f rfl rfl ⟨oM,oM⟩) (congrArg (Value.int .i64) oM)) ?_;refine go 8 ?_;exact a1U (((a+b) / 2)+m-b) (((a+b) / 2)) (.inl ⟨oM,rfl,rfl⟩) sb rfl rfl
    ·refine go 11 ?_;exact a1U (a) (m) (.inr ⟨oM,rfl,rfl⟩) sb rfl rfl
   ·intro S R hS;refine go 3 ?_;refine o_v rfl (OV.cast (u:=.int .i64 ((((a+b) / 2)+m-1:Nat):Int)) (a1f rfl rfl ⟨oM,oM⟩) (congrArg (Value.int .i64) oM)) ?_;refine go 5 ?_
    refine a0L (S) (R) (fun s r=>I)
     (fun s r=>[(0,.slice (some ⟨g,0,none⟩) N N),(1,.int .i64 ((a:Nat):Int)),(2,.int .i64 ((m:Nat):Int)),(3,.int .i64 ((b:Nat):Int)),(4,.func (.func f) #[] #[]),(18,.int .i64 ((((a+b) / 2):Nat):Int)),(19,.int .i64 ((((a+b) / 2)+m:Nat):Int)),(20,.int .i64 ((s:Nat):Int)),(21,.int .i64 ((r:Nat):Int)),(22,.int .i64 ((((a+b) / 2)+m-1:Nat):Int))])
     (fun s r=>[.blk g 130 (a1o (l)).flatten])
     (fun s r=>S≤s∧s≤r∧r≤R∧(∀q,S≤q→q<s→a0r l q≤a0r l (((a+b) / 2)+m-1-q))∧(∀q,r≤q→q<R→a0r l (((a+b) / 2)+m-1-q)<a0r l q))
     (fun s r=>r-s) ⟨oM,oM,oM,fun q _ _=>oM,fun q _ _=>oM⟩ rfl sb rfl ?_
    intro s r ⟨hs1,hsr,hrR,hlo,hhi⟩;refine gC 8 (fun h151 p151=>?_) fun h151 p151=>?_
    ·have hh:(s+r) / 2<l.length:=oM;have hh2:((a+b) / 2)+m-1-(s+r) / 2<l.length:=oM;refine go 8 ?_;refine o_v rfl (a1K he he rfl (m:=(s:Int)+(r:Int)) (wrap_u64 _ oM oM)) ?_;refine o_v rfl (a6w rfl (by decide)) ?_;refine o_v rfl (a1K he he rfl (m:=(((s+r) / 2:Nat):Int)) (by rw[IntKind.wrap_i64];omega)) ?_;refine go 5 ?_;refine dG 0 4 ?_;refine a0I 4 rfl rfl (by kernel_rfl) rfl (.refl _) rfl (OV.cast (u:=.int .i64 ((((a+b) / 2)+m-1-(s+r) / 2:Nat):Int)) (a1f rfl rfl ⟨oM,oM⟩) (congrArg (Value.int .i64) oM)) ?_;refine a0I 5 rfl rfl (by kernel_rfl) rfl (.refl _) rfl (a0m he rfl rfl rfl (((a+b) / 2)+m-1-(s+r) / 2) oM oM) ?_;refine a0I 6 rfl rfl (by kernel_rfl) rfl (.refl _) rfl (a1y m0 (a0h _) he rfl (((a+b) / 2)+m-1-(s+r) / 2) oM (a1m hh2)) ?_;refine dG 7 2 ?_;refine a0I 9 rfl rfl (by kernel_rfl) rfl (.refl _) rfl (a0m he rfl rfl rfl ((s+r) / 2) oM oM) ?_;refine a0I 10 rfl rfl (by kernel_rfl) rfl (.refl _) rfl (a1y m0 (a0h _) he rfl ((s+r) / 2) oM (a1m hh)) ?_;refine dH 11 0 ?_;refine cV (hp _ _) ?_;refine dG 12 2 ?_;refine gC 2 (fun h171 p171=>?_) fun h171 p171=>?_
     ·refine go 7 ?_;exact a0n ((s+r) / 2+1) (r) ⟨oM,oM,oM,c7V m1 m2 ham hmb rfl hS (h:=(s+r) / 2) (r:=r) oM oM hrR (c0B p171),hhi⟩ oM rfl sb rfl
     ·refine go 6 ?_;exact a0n (s) ((s+r) / 2) ⟨oM,oM,oM,hlo,c7U m1 m2 ham hmb rfl hS (h:=(s+r) / 2) (s:=s) hs1 oM oM (c0C p171)⟩ oM rfl sb rfl
    ·obtain rfl:s=r:=oM;obtain⟨hx,hy⟩:=c2Q m1 m2 ham hmb rfl hS hs1 hrR hlo hhi;have g0:a≤s:=oM;have g1:s≤m:=oM;have g2:m≤((a+b) / 2+m-s):=oM;have g3:((a+b) / 2+m-s)≤b:=oM;have hc:s+(((a+b) / 2+m-s)-m)=((a+b) / 2):=oM;refine go 9 ?_;refine o_v rfl (OV.cast (u:=.int .i64 ((((a+b) / 2+m-s):Nat):Int)) (a1f rfl rfl ⟨oM,oM⟩) (congrArg (Value.int .i64) oM)) ?_;refine go 4 ?_;refine a6M (α:=List Evt) (Ix:=(fun k=>I)) (Lx:=(fun k=>[(0,.slice (some ⟨g,0,none⟩) N N),(1,.int .i64 ((a:Nat):Int)),(2,.int .i64 ((m:Nat):Int)),(3,.int .i64 ((b:Nat):Int)),(4,.func (.func f) #[] #[]),(18,.int .i64 ((((a+b) / 2):Nat):Int)),(20,.int .i64 ((s:Nat):Int)),(24,.int .i64 ((((a+b) / 2+m-s):Nat):Int))])) (Hx:=(fun k=>[.blk g 130 (a1o (k)).flatten])) (p:=(fun k=>Rot l k a s m ((a+b) / 2+m-s) b)) ?_ ?_
     ·refine gS 6 181 (fun h181 p181=>?_) fun h181 p181=>?_
      ·refine gC 6 (fun h185 p185=>?_) fun h185 p185=>?_
       ·refine go 7 ?_;refine a0K (d3T _ l N hN g s m ((a+b) / 2+m-s) f oM oM oM oM) rfl rfl fun v191 s191 q191=>?_;obtain⟨rfl,k,rfl,hkl,hk⟩:=q191;refine go 2 ?_;exact a2n k (Rot.of g1 g2 oM hkl hk hx) sb rfl rfl
       ·refine go 2 ?_;exact a2n l (Rot.id oM g1 g2) sb rfl rfl
      ·refine go 9 ?_;exact a2n l (Rot.id oM g1 g2) sb rfl rfl
     ·intro k hk;refine go 1 ?_;refine a6M (α:=List Evt) (Ix:=(fun k1=>I)) (Lx:=(fun k1=>[(0,.slice (some ⟨g,0,none⟩) N N),(1,.int .i64 ((a:Nat):Int)),(2,.int .i64 ((m:Nat):Int)),(3,.int .i64 ((b:Nat):Int)),(4,.func (.func f) #[] #[]),(18,.int .i64 ((((a+b) / 2):Nat):Int)),(20,.int .i64 ((s:Nat):Int)),(24,.int .i64 ((((a+b) / 2+m-s):Nat):Int))])) (Hx:=(fun k1=>[.blk g 130 (a1o (k1)).flatten])) (p:=(fun k1=>Seg k k1 a ((a+b) / 2))) ?_ ?_
      ·refine gS 6 195 (fun h195 p195=>?_) fun h195 p195=>?_
       ·refine gC 6 (fun h199 p199=>?_) fun h199 p199=>?_
        ·refine go 7 ?_;refine a0K (ih k a s ((a+b) / 2) (hk.len.trans hN) oM oM oM (by have:=hk.len;omega) (hk.p1 m1 g1) ((hk.p2 m2 g1 g2 g3).sub (Nat.le_refl _) oM)) rfl rfl fun v205 s205 q205=>?_;obtain⟨rfl,k1,rfl,hk1⟩:=q205;refine go 2 ?_;exact a2n k1 hk1 sb rfl rfl
        ·refine go 2 ?_;exact a2n k (Seg.refl' (hk.left m1 m2 g1 g2 g3 hc oM g0)) sb rfl rfl
       ·refine go 9 ?_;exact a2n k (Seg.refl' (hk.left m1 m2 g1 g2 g3 hc oM g0)) sb rfl rfl
      ·intro k1 hk1;have hl1:k1.length=N:=hk1.len.trans (hk.len.trans hN);refine gS 6 209 (fun h209 p209=>?_) fun h209 p209=>?_
       ·refine gC 6 (fun h213 p213=>?_) fun h213 p213=>?_
        ·refine go 7 ?_;refine a0K (ih k1 ((a+b) / 2) ((a+b) / 2+m-s) b hl1 oM oM oM oM (hk1.keepD (Nat.le_refl _) ((hk.p3 m1 g0 g1 g2).sub oM (Nat.le_refl _))) (hk1.keepD oM (hk.p4 m2 g1 g2))) rfl rfl fun v219 s219 q219=>?_;obtain⟨rfl,k2,rfl,hk2⟩:=q219;refine go 2 ?_;exact q_x ⟨rfl,k2,rfl,hk.done m1 m2 g0 g1 g2 g3 hb hc hx hy hk1 hk2⟩
        ·refine go 2 ?_;exact q_x ⟨rfl,k1,rfl,hk.done m1 m2 g0 g1 g2 g3 hb hc hx hy hk1 (Seg.refl' (hk1.keepD (Nat.le_refl _) (hk.right m1 m2 g0 g1 g2 hc oM g3)))⟩
       ·refine go 9 ?_;exact q_x ⟨rfl,k1,rfl,hk.done m1 m2 g0 g1 g2 g3 hb hc hx hy hk1 (Seg.refl' (hk1.keepD (Nat.le_refl _) (hk.right m1 m2 g0 g1 g2 hc oM g3)))⟩
theorem b7Z (I:IMap) (N g:Nat) (f:FuncId) (hp:∀x y:Evt,FnV prog f #[.agg (Day.ch x).toArray,.agg (Day.ch y).toArray] I (.int .i64 (a8F (Day.day x) (Day.day y)))) (hN0:N≤1000000) (W:Nat):∀(l:List Evt) (a m b:Nat),l.length=N→b-a≤W→a<m→m<b→b≤l.length→SrtD l a m→SrtD l m b→FnX prog 316 #[.slice (some ⟨g,0,none⟩) N N,.int .i64 ((a:Nat):Int),.int .i64 ((m:Nat):Int),.int .i64 ((b:Nat):Int),.func (.func f) #[] #[]] I [.blk g 130 (a1o (l)).flatten] (fun u r=>u = .tuple #[]∧∃m,r = .blk g 130 (a1o (m)).flatten∧Seg l m a b):=by
 induction W using Nat.strongRecOn with
 |_ W ih=>exact fun l a m b hN hW ham hmb hb m1 m2=>c3f I N g f hp hN0 W (fun l' a' m' b' h1 h2 h3 h4 h5 h6 h7=>ih (b'-a') h2 l' a' m' b' h1 (Nat.le_refl _) h3 h4 h5 h6 h7) l a m b hN hW ham hmb hb m1 m2
theorem d4c (I:IMap) (N g:Nat) (f:FuncId) (hp:∀x y:Evt,FnV prog f #[.agg (Day.ch x).toArray,.agg (Day.ch y).toArray] I (.int .i64 (a8F (Day.day x) (Day.day y)))) (hN0:N≤1000000) (l:List Evt) (hN:l.length=N) :
    FnX prog 268 #[.slice (some ⟨g,0,none⟩) N N,.int .i64 ((N:Nat):Int),.func (.func f) #[] #[]] I [.blk g 130 (a1o (l)).flatten] (fun u r=>u = .tuple #[]∧∃m,r = .blk g 130 (a1o (m)).flatten∧Stb l m∧SrtD m 0 N):=by
 refine enter func268 call268 rfl ntmps268 rfl fun w0=>?_;refine go 14 ?_
 refine a0L (0) (l) (fun a m=>I)
  (fun a m=>[(0,.slice (some ⟨g,0,none⟩) N N),(1,.int .i64 ((N:Nat):Int)),(2,.func (.func f) #[] #[]),(6,.int .i64 20),(7,.int .i64 ((a:Nat):Int)),(8,.int .i64 ((a+20:Nat):Int))])
  (fun a m=>[.blk g 130 (a1o (m)).flatten])
  (fun a m=>a≤N∧Stb l m∧Pre m 20 a)
  (fun a m=>N-a) ⟨Nat.zero_le _,Stb.refl l,.zero⟩ rfl sb rfl ?_
 intro a m ⟨ha,hs,hP⟩;have hmN:m.length=N:=hs.1.symm.trans hN;refine gC 8 (fun h13 p13=>?_) fun h13 p13=>?_
 ·refine go 10 ?_;refine a0K (c1r _ m N hmN g a (a+20) f hp oM oM oM) rfl rfl fun v18 s18 q18=>?_;obtain⟨rfl,k18,rfl,h18⟩:=q18;refine go 11 ?_;refine o_v rfl (OV.cast (u:=.int .i64 ((a+20+20:Nat):Int)) (a2h rfl rfl ⟨oM,oM⟩) (congrArg (Value.int .i64) oM)) ?_;refine go 4 ?_;exact a0n (a+20) (k18) ⟨oM,hs.trans h18.stb,hP.put h18⟩ oM rfl sb rfl
 ·refine go 12 ?_;refine a0K (c1r _ m N hmN g a N f hp ha oM oM) rfl rfl fun v27 s27 q27=>?_;obtain⟨rfl,m3,rfl,h27⟩:=q27;refine go 3 ?_
  refine a0L (20) (m3) (fun q m=>I)
   (fun q m=>[(0,.slice (some ⟨g,0,none⟩) N N),(1,.int .i64 ((N:Nat):Int)),(2,.func (.func f) #[] #[]),(6,.int .i64 ((q:Nat):Int))])
   (fun q m=>[.blk g 130 (a1o (m)).flatten])
   (fun q m=>1≤q∧Stb l m∧Blk m q N 0)
   (fun q m=>N-q) ⟨oM,hs.trans h27.stb,hP.last h27 ha oM⟩ rfl sb rfl ?_
  intro q m ⟨hq,hs,hB⟩;have hmN:m.length=N:=hs.1.symm.trans hN;refine gC 8 (fun h30 p30=>?_) fun h30 p30=>?_
  ·refine go 6 ?_;refine o_v rfl (OV.cast (u:=.int .i64 ((2 * q:Nat):Int)) (b4M rfl rfl ⟨oM,oM⟩) (congrArg (Value.int .i64) oM)) ?_;refine go 6 ?_
   refine a0L (0) (m) (fun a k=>I)
    (fun a k=>[(0,.slice (some ⟨g,0,none⟩) N N),(1,.int .i64 ((N:Nat):Int)),(2,.func (.func f) #[] #[]),(6,.int .i64 ((q:Nat):Int)),(7,.int .i64 ((a:Nat):Int)),(8,.int .i64 ((a+2 * q:Nat):Int))])
    (fun a k=>[.blk g 130 (a1o (k)).flatten])
    (fun a k=>a≤N∧Stb l k∧Pre k (2 * q) a∧Blk k q N a)
    (fun a k=>N-a) ⟨Nat.zero_le _,hs,.zero,hB⟩ rfl ⟨rfl,rfl,rfl,rfl,rfl,congrArg (fun z:Int=>some (Value.int .i64 z)) oM,trivial⟩ rfl ?_
   intro a k ⟨ha,hkS,hkP,hkB⟩;have hkN:k.length=N:=hkS.1.symm.trans hN;refine gC 8 (fun h35 p35=>?_) fun h35 p35=>?_
   ·obtain⟨t1,t2,t3⟩:=hkB.two oM hq;refine go 9 ?_;refine o_v rfl (OV.cast (u:=.int .i64 ((a+q:Nat):Int)) (a2h rfl rfl ⟨oM,oM⟩) (congrArg (Value.int .i64) oM)) ?_;refine go 3 ?_;refine a0K (b7Z _ N g f hp hN0 _ k a (a+q) (a+2 * q) hkN (Nat.le_refl _) oM oM oM t1 t2) rfl rfl fun v43 s43 q43=>?_;obtain⟨rfl,k43,rfl,h43⟩:=q43;refine go 11 ?_;refine o_v rfl (OV.cast (u:=.int .i64 ((2 * q:Nat):Int)) (b4M rfl rfl ⟨oM,oM⟩) (congrArg (Value.int .i64) oM)) ?_;refine o_v rfl (OV.cast (u:=.int .i64 ((a+2 * q+2 * q:Nat):Int)) (a2h rfl rfl ⟨oM,oM⟩) (congrArg (Value.int .i64) oM)) ?_;refine go 4 ?_;exact a0n (a+2 * q) (k43) ⟨oM,hkS.trans h43.stb,hkP.put h43,t3.same fun z z1 z2=>h43.out z (.inr oM)⟩ oM rfl sb rfl
   ·refine go 6 ?_;refine a6M (α:=List Evt) (Ix:=(fun k=>I)) (Lx:=(fun k=>[(0,.slice (some ⟨g,0,none⟩) N N),(1,.int .i64 ((N:Nat):Int)),(2,.func (.func f) #[] #[]),(6,.int .i64 ((q:Nat):Int))])) (Hx:=(fun k=>[.blk g 130 (a1o (k)).flatten])) (p:=(fun k=>Stb l k∧Blk k (2 * q) N 0)) ?_ ?_
    ·refine go 4 ?_;refine o_v rfl (OV.cast (u:=.int .i64 ((a+q:Nat):Int)) (a2h rfl rfl ⟨oM,oM⟩) (congrArg (Value.int .i64) oM)) ?_;refine gC 10 (fun h54 p54=>?_) fun h54 p54=>?_
     ·obtain⟨t1,t2⟩:=hkB.one oM;refine go 7 ?_;refine a0K (b7Z _ N g f hp hN0 _ k a (a+q) N hkN (Nat.le_refl _) oM oM oM t1 (t2 oM)) rfl rfl fun v60 s60 q60=>?_;obtain⟨rfl,k60,rfl,h60⟩:=q60;refine go 2 ?_;exact a2n k60 ⟨hkS.trans h60.stb,hkP.last h60 ha oM⟩ sb rfl rfl
     ·refine go 2 ?_;exact a2n k ⟨hkS,hkP.last (Seg.refl' (hkB.all oM)) ha oM⟩ sb rfl rfl
    ·intro k ⟨hkS,hkB⟩;refine go 2 ?_;refine o_v rfl (OV.cast (u:=.int .i64 ((2 * q:Nat):Int)) (b4M rfl rfl ⟨oM,oM⟩) (congrArg (Value.int .i64) oM)) ?_;refine go 4 ?_;exact a0n (2 * q) (k) ⟨oM,hkS,hkB⟩ oM rfl sb rfl
  ·refine go 5 ?_;exact q_x ⟨rfl,m,rfl,hs,hB.all oM⟩
theorem b9y (I:IMap) (N g:Nat) (f:FuncId) (hp:∀x y:Evt,FnV prog f #[.agg (Day.ch x).toArray,.agg (Day.ch y).toArray] I (.int .i64 (a8F (Day.day x) (Day.day y)))) (hN0:N≤1000000) (l:List Evt) (hN:l.length=N) :
    FnX prog 201 #[.slice (some ⟨g,0,none⟩) N N,.func (.func f) #[] #[]] I [.blk g 130 (a1o (l)).flatten] (fun u r=>u = .tuple #[]∧∃m,r = .blk g 130 (a1o (m)).flatten∧Stb l m∧SrtD m 0 N):=by
 refine enter func201 call201 rfl ntmps201 rfl fun w0=>?_;refine go 6 ?_;refine a0K (d4c _ N g f hp hN0 l hN) rfl rfl fun v8 s8 q8=>?_;obtain⟨rfl,m8,rfl,h8⟩:=q8;refine go 2 ?_;exact q_x ⟨rfl,m8,rfl,h8⟩
theorem d0X (I:IMap) (v:Value) (l:List Evt) (hv:RdS I v l) (hl:l.length≤1000000) (f:FuncId) (hp:∀x y:Evt,FnV prog f #[.agg (Day.ch x).toArray,.agg (Day.ch y).toArray] I (.int .i64 (a8F (Day.day x) (Day.day y)))) :
    FnI prog 119 #[v,.func (.func f) #[] #[]] I (fun u J=>RdS J u (a1Z l)):=by
 obtain⟨A,c,rfl,hA,hc,hm⟩:=hv;refine enter func119 call119 rfl ntmps119 rfl fun w0=>?_;refine go 10 ?_;refine a6G he he rfl rfl rfl oM oM rfl fun g8=>?_;refine go 8 ?_;obtain⟨xss,hx,hcell⟩:=hA.pieces;obtain rfl:=b5h hx;refine a6s (a1o l) 0 he rfl rfl (by rw[a0s];simp) (Uk.rep (c:=[.int .i64 0,.int .i64 0,.string ⟨#[]⟩,.string ⟨#[]⟩,.string ⟨#[]⟩,.string ⟨#[]⟩,.string ⟨#[]⟩,.string ⟨#[]⟩,.int .i64 0,.int .i64 0,.int .i64 0,.int .i64 0,.int .i64 0,.int .i64 0]) rfl _) (a0h l) hx.one (fun _=>by rw[Nat.zero_mul]) (fun hp=>by rw[a0s]at hp;obtain⟨b,o,e,h⟩:=hcell hp;exact⟨b,o,e,fun w mm j u hu=>(h j u hu).at_ mm.con⟩) (by rw[a0s];simp) rfl ?_;refine a4q (yss:=a1o l) (by rw[a0s];simp) ?_;refine go 7 ?_;refine a0K (b9y _ l.length g8 f hp hl l rfl) rfl rfl fun v14 s14 q14=>?_;obtain⟨rfl,m14,rfl,h14,s14⟩:=q14;refine go 10 ?_;have hml:m14.length=l.length:=h14.1.symm;obtain rfl:=b7Q h14 (SrtD.pw (by rw[hml];exact s14));refine c3e (m:=l.length) (a0h _) (by rw[a0s,hml]) (by unfold maxLen;omega) ?_;refine a0i (l:=a1Z l) rfl hml.symm (a6U _).flat fun J hJ R=>?_;exact q_i R
theorem d5d (I:IMap) (x y:Evt) :
    FnV prog 120 #[.agg (Day.ch x).toArray,.agg (Day.ch y).toArray] I (.int .i64 (a8F (Day.day x) (Day.day y))):=by
 refine enter func120 call120 rfl ntmps120 rfl fun w0=>?_
 show SX _ _ _ (a9e [.agg x.cells.toArray,.agg y.cells.toArray] 0) _ _
 refine go 4 fun g2=>?_
 refine go 2 fun g3=>?_
 refine go 10 ?_;refine cV (a9s _ _ _) ?_;refine go 5 ?_;exact q_v rfl
theorem d1Z (I:IMap) (v:Value) (l:List Evt) (hv:RdS I v l) (hl:l.length≤1000000) :
    FnI prog 56 #[v] I (fun u J=>RdS J u (a1Z l)):=by
 refine enter func56 call56 rfl ntmps56 rfl fun w0=>?_;refine go 9 ?_;refine a0p (d0X _ v l hv hl 120 (fun x y=>d5d _ x y)) rfl rfl fun v4 I4 j4 q4=>?_;refine go 5 ?_;exact q_i q4
end Go.Proofs.YtgmkjpafapgccaaGreat
namespace Go.Proofs.YtgmkjpafapgccaaGreat
open Go Go.Sx Tryz
set_option linter.all false
set_option maxRecDepth 20000
set_option maxHeartbeats 4000000
instance:Has (tyK prog 63) (false,1):=hk
instance:Has (tyK prog 72) (false,1):=hk
instance:Has (a1i prog 3) [.int .i64 0]:=hk
instance:Has (a1i prog 63) [.int .i64 0]:=hk
theorem a6p (I:IMap) (v:Value) (l:List Evt) (hl:l.length≤1000000) (f:FuncId) (cs:List Value) (p:Evt→Bool) (hp:∀I2,ILe I I2→∀x:Evt,FnV prog f ([Value.agg (Day.ch x).toArray]++cs).toArray I2 (.bool (p x))) :
    FnD prog 53 #[v,.func (.func f) #[] cs.toArray] I (.row v 130 14 l.length (a1o l).flatten) (fun u J=>RdS J u (l.filter fun x=>!p x)):=by
 refine enter func53 call53 rfl ntmps53 rfl fun w0=>?_;refine go 10 ?_;refine a9W m0 rfl rfl ((a6U l).flat) (fun I2 hI2 hR=>b2i I2 _ l hR f cs p (fun x _ vs hx=>by cases hx;exact hp I2 hI2 x)) rfl rfl ?_;refine gC 10 (fun h12 p12=>?_) fun h12 p12=>?_
 ·refine go 9 ?_
  have hall:l.filter (fun x=>!p x)=l:=by
    rw[List.filter_eq_self];intro x hx;have:=a2F p l;rw[show decide (0≤a4u p l)=false from by rw[p12];rfl]at this
    simpa using List.any_eq_false.1 this.symm x hx
  refine a0i (l:=l) rfl rfl (a6U l).flat fun J hJ R=>?_;exact q_d (by rw[hall];exact R)
 ·obtain⟨i0,hi0,hx0,hp0,hn0⟩:∃(i:Nat) (h:i<l.length),a4u p l=(i:Int)∧p l[i]=true∧∀j x,j<i→l[j]? = some x→p x=false:=by
    rcases a4V p l with ⟨h1,_⟩|⟨i,hi,h1,h2⟩
    · exfalso;have:=p12;have : -1≤a4u p l:=c1k p l;omega
    · rw[List.find?_eq_some_iff_getElem]at h2
      obtain⟨h3,k,hk,h4,h5⟩:=h2;obtain⟨h6,h7⟩:=b6S h1 hi;exact⟨i,hi,h1,h6,h7⟩
  refine a7A (a0h l) (a0s l) (fun h0 _=>oM) fun g cap rest hv hR hcap hmax=>?_;subst hv;have hcap1:l.length≤cap:=oM;refine go 6 ?_;refine o_v rfl (OV.cast (u:=.int .i64 ((i0+1:Nat):Int)) (a2h rfl rfl ⟨oM,oM⟩) (congrArg (Value.int .i64) (by rw[hx0];omega))) ?_;refine go 4 ?_
  refine a3k (i0) (i0+1) (l) (fun i j m=>I)
   (fun i j m=>[(0,.slice (some ⟨g,0,none⟩) l.length cap),(1,.func (.func f) #[] cs.toArray),(5,.int .i64 ((i:Nat):Int)),(6,.int .i64 ((j:Nat):Int))])
   (fun i j m=>[.blk g 130 (a1o m++rest).flatten])
   (fun i j m=>Del p l m i j)
   (fun i j m=>l.length-j) (Del.start hi0 hp0 hn0) rfl ⟨rfl,rfl,congrArg (fun z:Int=>some (Value.int .i64 z)) hx0,rfl,trivial⟩ rfl ?_
  intro i j m hD;have hml:=hD.len;have hij:=hD.le;have hjl:=hD.hj;refine gC 9 (fun h19 p19=>?_) fun h19 p19=>?_
  ·have hlt:j<l.length:=oM;have hjm:j<m.length:=oM;have hat:=hD.at_ hlt;refine go 8 ?_;refine o_v rfl (a0m he rfl rfl rfl (j) oM oM) ?_;refine o_v rfl (a1y m0 ((a0h _).append hR) he rfl (j) oM (c0T hjm)) ?_;refine go 2 fun g7=>?_
   refine go 9 ?_;refine cV (hp _ (ILe.refl _) _) ?_;refine gC 3 (fun h29 p29=>?_) fun h29 p29=>?_
   ·refine go 5 ?_;refine o_v rfl (a0m he rfl rfl rfl (i) oM oM) ?_;refine go 1 ?_;refine a0b ?_;refine a1O _ (i) ((a0h _).append hR) he rfl rfl rfl rfl rfl oM (by simp[a0s];omega) ?_;refine go 4 ?_;refine o_v rfl (OV.cast (u:=.int .i64 ((i+1:Nat):Int)) (a2h rfl rfl ⟨oM,oM⟩) (congrArg (Value.int .i64) oM)) ?_;refine go 6 ?_;refine o_v rfl (OV.cast (u:=.int .i64 ((j+1:Nat):Int)) (a2h rfl rfl ⟨oM,oM⟩) (congrArg (Value.int .i64) oM)) ?_;refine go 3 ?_;refine a0b ?_;refine a0a ?_;exact a1P (i+1) (j+1) (m.set i l[j]) (hD.keep hlt (by simpa[hat]using p29)) oM rfl sb (by rw[←c0U _ _ _ oM,hat])
   ·refine go 5 ?_;refine o_v rfl (OV.cast (u:=.int .i64 ((j+1:Nat):Int)) (a2h rfl rfl ⟨oM,oM⟩) (congrArg (Value.int .i64) oM)) ?_;refine go 3 ?_;refine a0a ?_;exact a1P (i) (j+1) (m) (hD.skip hlt (by simpa[hat]using p29)) oM rfl sb rfl
  ·obtain rfl:j=l.length:=oM;have hfi:m.take i=l.filter fun x=>!p x:=by have:=hD.fst;rwa[List.take_length]at this
   refine go 9 ?_;refine o_v rfl (a0E he rfl rfl i rfl oM) ?_;refine go 1 ?_;refine b5I i he he rfl rfl rfl rfl ((a0h _).append hR) (fun _=>a1r (k:=14) oM) (by simp[a0s];omega) ?_;refine go 6 ?_;refine o_v rfl (a2e he rfl rfl i rfl oM) ?_;refine go 5 ?_;have htk:(a1o m++rest).take i=a1o (l.filter fun x=>!p x):=by rw[List.take_append_of_le_length (by rw[a0s];omega),←hfi,a1o,a1o,List.map_take]
   have hll:(l.filter fun x=>!p x).length=i:=by rw[←hfi,List.length_take];omega
   rw[htk];refine a2a (m:=i) (cap:=cap) (a0h _) ((Uk.rep (c:=[.int .i64 0,.int .i64 0,.string ⟨#[]⟩,.string ⟨#[]⟩,.string ⟨#[]⟩,.string ⟨#[]⟩,.string ⟨#[]⟩,.string ⟨#[]⟩,.int .i64 0,.int .i64 0,.int .i64 0,.int .i64 0,.int .i64 0,.int .i64 0]) rfl _).append (Uk.drop ((a0h _).append hR) _)) (by rw[a0s,hll]) (by simp[a0s];omega) hmax ?_;refine a0i (l:=l.filter fun x=>!p x) rfl hll.symm (a6U _).flat fun J hJ R=>?_;exact q_d R
theorem c3U (I:IMap) (x:Evt) (g:Nat) (day:Int) (cg:ICells I g 0 [ci day]) :
    FnV prog 285 #[.agg (Day.ch x).toArray,.pointer (some ⟨g,0,none⟩)] I (.bool (decide (x.day>day))):=by
 refine enter func285 call285 rfl ntmps285 rfl fun w0=>?_
 show SX _ _ _ (a9e [.agg x.cells.toArray,.pointer (some ⟨g,0,none⟩)] 0) _ _
 refine go 4 fun g2=>?_
 refine go 7 ?_;refine o_v rfl (a0H he rfl (cg 0 _ rfl)) ?_;refine go 6 ?_;exact q_v rfl
theorem c6P (I:IMap) (vc:Value) (c:List Kind) (hvc:RdS I vc c) (hsc:SmC c) (v:Value) (l:List Evt) (hv:RdS I v l) (hse:∀e∈l,SmE e) (g3 g2:Nat) (c3:ICells I g3 0 [v]) (c2:ICells I g2 0 [vc]) :
    b9N prog 348 [.pointer (some ⟨g3,0,none⟩),.pointer (some ⟨g2,0,none⟩)] I d6W (fun pre x=>pre++[x] <+: a0X c [] l) (fun pre=>pre=a0X c [] l) (fun _=>True):=by
 have hv0:=hv;obtain⟨A,c0,rfl,hA,hc,hm⟩:=hv;intro ly J I1 Hc hI1 hJm hY hJ0;have hvc:=hvc.le hI1;have hv0:=hv0.le hI1;have hA:=hA.le hI1;have c3:=c3.le hI1;have c2:=c2.le hI1;refine enter func348 call348 rfl ntmps348 rfl fun w0=>?_;refine go 4 fun g4=>?_
 refine go 10 ?_
 refine a5g (0) ([]) (.slice none 0 0) (I1) (Hc) (fun i st v4 I2 Hc=>I2)
  (fun i st v4 I2 Hc=>[(0,.func (.yield ly) #[] #[]),(1,.pointer (some ⟨g3,0,none⟩)),(2,.pointer (some ⟨g2,0,none⟩)),(4,.pointer (some ⟨g4,0,none⟩)),(9,.slice A l.length c0),(10,.int .i64 (l.length:Int)),(11,.int .i64 ((i:Nat):Int))])
  (fun i st v4 I2 Hc=>.blk g4 62 [v4]::Hc)
  (fun i st v4 I2 Hc=>i≤l.length∧ILe I1 I2∧StAt c l i st∧J true ((a0X c [] l).take i) I2 Hc∧RdS I2 v4 st∧SmF st)
  (fun i st v4 I2 Hc=>l.length-i) ⟨Nat.zero_le _,ILe.refl _,StAt.zero c l,hJ0,RdS.nil',SmF.nil⟩ rfl sb rfl ?_
 intro i st v4 I2 Hc ⟨hi,hI2,hSt,hJ,hv4,hsf⟩;have hvc:=hvc.le hI2;have hA:=hA.le hI2;have c2:=c2.le hI2;refine gC 6 (fun h12 p12=>?_) fun h12 p12=>?_
 ·have hlt:i<l.length:=oM;obtain⟨hS1,hS2,hS3,hS4⟩:=hSt.step hlt;refine go 6 ?_;obtain⟨b13,o13,w13,e13,c13,r13⟩:=RdA.at_ hA (i:=i) hlt;obtain rfl:=r13;refine go 4 fun g6=>?_
  refine go 10 ?_;refine a0p (b5s _ vc c hvc hsc v4 st hv4 hsf l[i] (hse _ (List.getElem_mem hlt))) rfl rfl fun v19 I19 j19 q19=>?_;obtain⟨w19,rfl,hw19⟩:=q19;refine go 5 fun g7=>?_
  refine go 1 ?_;refine a0Q _ he rfl rfl rfl rfl rfl (by simp[RdS.one hw19]) ?_;refine go 10 ?_;refine c5F (a0g c st l[i]) hY (hJm _ _ _ _ _ j19 hJ) (⟨_,rfl,hw19⟩) (⟨(a0X c [] l).drop (i+1),by rw[hS1,List.take_append_drop]⟩) rfl rfl rfl fun b25 I25 Hc25 j25 hJ25=>?_;have hw19:=hw19.le j25;refine gS 2 27 (fun h27 p27=>?_) fun h27 p27=>?_
  ·refine go 13 ?_;refine a0a ?_;refine a0a ?_;refine a0a ?_;subst p27;exact c2s false _ hJ25 trivial
  ·refine gC 5 (fun h30 p30=>?_) fun h30 p30=>?_
   ·refine go 7 ?_;refine a0a ?_;refine a0a ?_;refine a0a ?_;subst p27;exact c2s true _ hJ25 (hS1.trans (hS4 (by simpa using p30)))
   ·subst p27;have h0:(a0g c st l[i]).2=0:=by simpa using p30
    have hsm:=a9c (c:=c) hsf (hse _ (List.getElem_mem hlt));refine go 5 ?_;refine a0d ?_;refine a0Q _ he rfl rfl rfl rfl rfl (by simp[RdS.one hw19]) ?_;refine go 8 ?_;refine a0b ?_;refine a0a ?_;refine a0b ?_;refine a0a ?_;exact a2M (i+1) ((a0g c st l[i]).1) (w19) (I25) (Hc25) ⟨oM,(hI2.trans j19).trans j25,hS3 h0,by rw[←hS1];exact hJ25,hw19,hsm⟩ oM rfl sb rfl
 ·have hil:i=l.length:=oM;refine go 5 ?_;refine a0a ?_;exact c2s true _ hJ (hSt.last oM)
theorem d1c (I:IMap) (A:Option Addr) (m k:Nat) (vc:Value) :
    FnI prog 330 #[.agg #[vc],.slice A m k] I (fun u J=>∃g3 g2,u = .func (.func 348) #[] #[.pointer (some ⟨g3,0,none⟩),.pointer (some ⟨g2,0,none⟩)]∧ICells J g3 0 [.slice A m k]∧ICells J g2 0 [vc]):=by
 refine enter func330 call330 rfl ntmps330 rfl fun w0=>?_;refine go 4 fun g2=>?_
 refine go 2 fun g3=>?_
 refine go 5 ?_;refine a0B fun Ig3 jg3 cg3=>?_;refine a0B fun Ig2 jg2 cg2=>?_;have cg3:=(cg3).le jg2;refine go 6 ?_;exact q_i ⟨_,_,rfl,cg3,cg2⟩
theorem d6D (I:IMap) (vc:Value) (c:List Kind) (hvc:RdS I vc c) (hsc:SmC c) (v:Value) (l:List Evt) (hv:RdS I v l) (hl:l.length≤1000000) (hse:∀e∈l,SmE e) :
    FnI prog 284 #[.agg #[vc],v] I (fun u J=>∃w,u = .tuple #[.agg #[w],.int .i64 (b6i c l).2.1,.int .i64 (b6i c l).2.2]∧RdS J w (b6i c l).1):=by
 refine enter func284 call284 rfl ntmps284 rfl fun w0=>?_;refine go 4 fun g2=>?_
 refine go 2 fun g4=>?_
 refine go 2 fun g5=>?_
 refine go 2 fun g6=>?_
 refine go 7 ?_;refine cV (a6N _ vc c hvc hsc) ?_;refine gC 3 (fun h13 p13=>?_) fun h13 p13=>?_
 ·refine go 4 ?_;refine a0d ?_;refine go 2 ?_;refine a0d ?_;refine go 2 ?_;refine a0d ?_;refine go 6 ?_;have hr:b6i c l=([],-1,1):=by unfold b6i;rw[if_pos (by simpa using h13)]
  exact q_i ⟨_,by rw[hr],by rw[hr];exact RdS.nil'⟩
 ·refine go 6 fun g7=>?_
  refine go 6 fun g8=>?_
  refine go 6 ?_;refine a1J fun hE5 hf5=>?_;refine go 1 ?_;refine dH 0 2 ?_;refine a0p (d1Z _ v l hv hl) rfl rfl fun v17 I17 j17 q17=>?_;have hvc:=hvc.le j17;have q17s:=q17;obtain⟨A17,k17,rfl,_⟩:=q17s;refine dH 3 0 ?_;refine a0p (d1c _ A17 _ k17 vc) rfl rfl fun v18 I18 j18 q18=>?_;have hvc:=hvc.le j18;have q17:=q17.le j18;obtain⟨g3,g2,rfl,c3,c2⟩:=q18;refine go 4 ?_;refine a0d ?_;refine a0u ?_;refine a1A ?_;refine a0u ?_;refine a1A ?_;refine a9o (σ:=Value×Int×Value×Int×Int) (ps:=[19,20]) (.slice none 0 0,0,.slice none 0 0,0,0) (fun ⟨v7,i,a,b,e⟩=>[.blk g7 62 [v7],.blk g8 3 [ci i],.blk g4 62 [a],.blk g5 3 [ci b],.blk g6 63 [ci e]]) (fun pre I ⟨v7,i,a,b,e⟩=>i=(pre.length:Nat)∧a = .slice none 0 0∧b=0∧e=0∧(∀x∈pre,x.2=0)∧RdS I v7 (b8P [] pre)) (fun pre I ⟨v7,i,a,b,e⟩ cd=>cd = .ret∧a = .slice none 0 0∧∃pr x t,a0X c [] (a1Z l)=pr++x::t∧(∀x∈pr,x.2=0)∧x.2≠0∧b=(pr.length:Nat)∧e=x.2) rfl call348 (c6P _ vc c hvc hsc _ (a1Z l) q17 (fun e he=>hse e (a7u.1 he)) g3 g2 c3 c2) (fun I vs x h=>by obtain⟨w,rfl,_⟩:=h;rfl) rfl (fun pre I I' s hI h=>by obtain⟨v7,i,a,b,e⟩:=s;exact⟨h.1,h.2.1,h.2.2.1,h.2.2.2.1,h.2.2.2.2.1,h.2.2.2.2.2.le hI⟩) (fun _ _ _ _ _ _ h=>h) (⟨rfl,rfl,rfl,rfl,(fun _ h=>by cases h),RdS.nil'⟩) rfl ?_ ?_ ?_
  ·rintro r E1 pre x vs I1 ⟨v7,i,a,b,e⟩ hI1 ⟨rfl,rfl,rfl,rfl,hok,hv7⟩ ⟨w,rfl,hw⟩ hpf;obtain⟨t,ht⟩:=id hpf;rw[List.append_assoc]at ht
   have hlen:=hpf.length_le;have hsl:=b1I c (a1Z l) [];rw[List.length_append,List.length_singleton]at hlen
   rw[a4p]at hsl
   refine d1h ?_;refine go 4 fun g9=>?_
   refine go 1 ?_;refine a0Q _ he rfl rfl rfl rfl rfl (by simp[RdS.one hw]) ?_;refine go 5 ?_;refine a0b ?_;refine b0h ?_;refine gC 8 (fun h22 p22=>?_) fun h22 p22=>?_
   ·refine go 1 ?_;refine a5z ?_;refine a5z ?_;refine a5z ?_;refine b6H T.mixed ?_;refine dH 0 3 ?_;refine go 1 ?_;refine dH 4 0 ?_;refine a0b ?_;refine go 1 ?_;refine dH 5 0 ?_;refine a0d ?_;refine go 7 ?_;refine a1A ?_;refine a0a ?_;refine a0b ?_;refine a0d ?_;refine a0S ?_;refine a0S ?_;refine a0S ?_;refine a0S ?_;exact d6f ((v7,_,_,_,_)) (hI1) (⟨rfl,rfl,pre,x,t,ht.symm,hok,p22,rfl,rfl⟩) rfl
   ·refine go 6 ?_;refine a0u ?_;refine a0Q _ he rfl rfl rfl rfl rfl (by simp[RdS.one hw]) ?_;refine go 6 ?_;refine a1A ?_;refine go 3 ?_;refine a0u ?_;refine a0a ?_;refine a0S ?_;refine a0S ?_;refine a0S ?_;refine a0u ?_;refine a1A ?_;refine a0S ?_;refine a0S ?_;exact b4s ((w,_,_,0,0)) (hI1) (⟨by simp only[List.length_append,List.length_singleton];push_cast;trivial,rfl,rfl,rfl,(fun y hy=>(List.mem_append.1 hy).elim (hok y) (fun h=>by rw[List.mem_singleton.1 h];exact p22)),(by simpa[b8P]using hw)⟩) rfl
  ·rintro D pre I1 ⟨v7,i,a,b,e⟩ hI1 hfull ⟨rfl,rfl,rfl,rfl,hok,hv7⟩;refine c2Z ?_;refine go 6 ?_;refine a0u ?_;refine a0Q _ he rfl rfl rfl rfl rfl (by simp[RdS.one hv7]) ?_;refine go 1 ?_;refine a1A ?_;refine go 2 ?_;refine a4S ?_;refine go 4 ?_;refine a0u ?_;refine b0g ?_;refine go 1 ?_;have hr:b6i c l=(b8P [] pre,-1,0):=by unfold b6i;rw[if_neg (by simp[p13]),b7O _ _ _ (hfull▸hok),←hfull]
   exact q_i ⟨_,by rw[hr],by rw[hr];exact hv7⟩
  ·rintro D pre I1 ⟨v7,i,a,b,e⟩ cd hI1 hpart ⟨rfl,rfl,pr,x,t,ht,hok,hx,rfl,rfl⟩;refine c2Z ?_;refine go 3 ?_;refine b0g ?_;refine d6x rfl ⟨_,_,_,rfl,m3,.inr ⟨_,he,rfl,rfl⟩⟩ ⟨_,_,_,rfl,m4,.inl ⟨he,rfl⟩⟩ ⟨_,_,_,rfl,m5,.inl ⟨he,rfl⟩⟩ ?_;have hr:b6i c l=([],((pr.length:Nat):Int),x.2):=by unfold b6i;rw[if_neg (by simp[p13]),b7P _ _ _ pr t x ht hok hx];simp
   exact q_i ⟨_,by rw[hr],by rw[hr];exact RdS.nil'⟩
theorem cAt (I:IMap) (vc:Value) (c:List Kind) (hvc:RdS I vc c) (hsc:SmC c) (v:Value) (l:List Evt) (hv:RdS I v l) (hl:l.length≤1000000) (hse:∀e∈l,SmE e) (day:Int) :
    FnI prog 224 #[.agg #[vc],v,.int .i64 day] I (fun u J=>∃w,u = .tuple #[.agg #[w],.int .i64 (a3C c l day).2.1,.int .i64 (a3C c l day).2.2]∧RdS J w (a3C c l day).1):=by
 refine enter func224 call224 rfl ntmps224 rfl fun w0=>?_;refine go 4 fun g3=>?_
 refine go 2 fun g5=>?_
 refine go 2 fun g6=>?_
 refine go 5 ?_;refine a0b ?_;refine a0B fun Ig5 jg5 cg5=>?_;have hvc:=hvc.le jg5;have hv:=hv.le jg5;refine a1J fun hE1 hf1=>?_;refine ds1 ?_;refine dG 0 2 ?_;refine dG 3 1 ?_;refine dH 2 0 ?_;refine a1F (b3o _ v l hv hl) rfl rfl fun v11 s11 q11=>?_;obtain⟨xss,rfl,hx⟩:=q11;obtain rfl:=b5h hx;refine dH 4 0 ?_;refine a9V (a6p _ _ l hl 285 [.pointer (some ⟨g5,0,none⟩)] (fun x=>decide (x.day>day)) (fun I2 hI2 x=>c3U I2 x g5 day (cg5.le hI2))) rfl rfl fun v13 I13 j13 q13=>?_;have hvc:=hvc.le j13;refine dH 5 0 ?_;refine a0p (d6D _ vc c hvc hsc _ (l.filter fun e=>!decide (e.day>day)) q13 (Nat.le_trans (List.length_filter_le _ _) hl) (fun e he=>hse e (List.mem_filter.1 he).1)) rfl rfl fun v14 I14 j14 q14=>?_;obtain⟨w14,rfl,hw14⟩:=q14;refine dH 6 3 ?_;refine a0Q _ he rfl rfl rfl rfl rfl (by simp[RdS.one hw14]) ?_;refine dG 10 2 ?_;refine go 4 ?_;exact q_i ⟨_,rfl,hw14⟩
end Go.Proofs.YtgmkjpafapgccaaGreat
namespace Go.Proofs.YtgmkjpafapgccaaGreat
open Go Go.Sx Tryz
set_option linter.all false
set_option maxRecDepth 20000
set_option maxHeartbeats 4000000
theorem b2J (I:IMap) (x:Ivl) :
    FnV prog 336 #[.agg x.cells.toArray] I (.bool (c3O x)):=by
 refine enter func336 call336 rfl ntmps336 rfl fun w0=>?_;refine go 4 fun g1=>?_
 refine gS 9 6 (fun h6 p6=>?_) fun h6 p6=>?_
 ·refine gS 7 13 (fun h13 p13=>?_) fun h13 p13=>?_
  ·refine go 9 ?_;exact q_v (congrArg Value.bool (by simp only[c3O,h6,h13,bS]))
  ·refine go 9 ?_;exact q_v (congrArg Value.bool (by simp only[c3O,h6,h13,bS]))
 ·refine go 16 ?_;exact q_v (congrArg Value.bool (by simp only[c3O,h6,bS]))
theorem c6e (I:IMap) (x:Use) :
    FnV prog 307 #[.agg x.cells.toArray] I (.bool (c7X x)):=by
 refine enter func307 call307 rfl ntmps307 rfl fun w0=>?_;refine go 4 fun g1=>?_
 refine go 6 ?_;refine o_v rfl (a1L (x.km.cells) m0 he rfl rfl rfl) ?_;refine go 1 ?_;refine cV (b2J _ x.km) ?_;refine gS 1 6 (fun h6 p6=>?_) fun h6 p6=>?_
 ·refine go 1 ?_;refine a0A (a0q rfl rfl h6 (a0t rfl (a1L (x.cycles.cells) m0 he rfl rfl rfl) ?_));refine go 1 ?_;refine a0q rfl rfl h6 (a0v (b2J _ x.cycles) rfl rfl ?_);refine gS 2 11 (fun h11 p11=>?_) fun h11 p11=>?_
  ·refine go 1 ?_;refine a0A (a0q rfl rfl h11 (a0t rfl (a1L (x.load.cells) m0 he rfl rfl rfl) ?_));refine go 1 ?_;refine a0q rfl rfl h11 (a0v (b2J _ x.load) rfl rfl ?_);refine go 6 ?_;exact q_v (congrArg Value.bool (by simp only[c7X,h6,h11,bS]))
  ·refine go 9 ?_;exact q_v (congrArg Value.bool (by simp only[c7X,h6,h11,bS]))
 ·refine go 14 ?_;exact q_v (congrArg Value.bool (by simp only[c7X,h6,bS]))
theorem b9p (I:IMap) (e:Evt) (hs:SmE e) :
    FnV prog 258 #[.agg e.cells.toArray] I (.bool (a1t e)):=by
 refine enter func258 call258 rfl ntmps258 rfl fun w0=>?_;refine go 4 fun g1=>?_
 refine go 5 ?_;refine a1N (I':=I) (L':=[(1,.pointer (some ⟨g1,0,none⟩)),(28,.bool (a6T e))]) (H':=[.blk g1 130 e.cells]) ?_ ?_
 ·refine gS 5 8 (fun h8 p8=>?_) fun h8 p8=>?_
  ·refine go 22 ?_;exact a0o ⟨rfl,(bB (by simp only[a6T,h8,bS])),trivial⟩ rfl rfl
  ·refine gS 5 13 (fun h13 p13=>?_) fun h13 p13=>?_
   ·refine go 17 ?_;exact a0o ⟨rfl,(bB (by simp only[a6T,h8,h13,bS])),trivial⟩ rfl rfl
   ·refine gS 5 18 (fun h18 p18=>?_) fun h18 p18=>?_
    ·refine go 12 ?_;exact a0o ⟨rfl,(bB (by simp only[a6T,h8,h13,h18,bS])),trivial⟩ rfl rfl
    ·refine gS 5 23 (fun h23 p23=>?_) fun h23 p23=>?_
     ·refine go 7 ?_;exact a0o ⟨rfl,(bB (by simp only[a6T,h8,h13,h18,h23,bS])),trivial⟩ rfl rfl
     ·refine go 3 ?_;refine a0q rfl rfl h23 (a0v (b3U _ _ hs.1) rfl rfl ?_);refine go 4 ?_;exact a0o ⟨rfl,(bB (by simp only[a6T,h8,h13,h18,h23,bS])),trivial⟩ rfl rfl
 ·refine gC 0 (fun h28 p28=>?_) fun h28 p28=>?_
  ·refine go 8 ?_;exact q_v (congrArg Value.bool (by rw[←a8h];simp only[b0s,h28];rfl))
  ·refine go 13 fun g3=>?_
   refine go 10 ?_;refine a1N (I':=I) (L':=[(1,.pointer (some ⟨g1,0,none⟩)),(3,.pointer (some ⟨g3,0,none⟩)),(4,.bool (a7P e))]) (H':=[.blk g3 130 (a7c e).cells,.blk g1 130 e.cells]) ?_ ?_
   ·refine gC 13 (fun h38 p38=>?_) fun h38 p38=>?_
    ·refine go 13 ?_;refine cV (b3U _ _ hs.2.1) ?_;refine go 4 ?_;exact a0o ⟨rfl,rfl,(bB (by simp only[a7P,p28,p38,h28,h38,Int.reduceEq,reduceIte,if_true,if_false,decide_true,decide_false,bS])),trivial⟩ (by rw[a7c,if_pos p38];rfl) rfl
    ·refine gC 6 (fun h46 p46=>?_) fun h46 p46=>?_
     ·refine go 22 ?_;refine cV (b3U _ _ hs.2.2.1) ?_;refine gS 1 57 (fun h57 p57=>?_) fun h57 p57=>?_
      ·refine go 3 ?_;refine a0q rfl rfl h57 (a0v (b3U _ _ hs.2.2.2.1) rfl rfl ?_);refine gS 2 62 (fun h62 p62=>?_) fun h62 p62=>?_
       ·refine go 10 ?_;exact a0o ⟨rfl,rfl,(bB (by simp only[a7P,p28,p38,p46,p57,p62,h28,h38,h46,h57,h62,Int.reduceEq,reduceIte,if_true,if_false,decide_true,decide_false,bS])),trivial⟩ (by rw[a7c,if_neg p38,if_pos p46];rfl) rfl
       ·refine go 10 ?_;exact a0o ⟨rfl,rfl,(bB (by simp only[a7P,p28,p38,p46,p57,p62,h28,h38,h46,h57,h62,Int.reduceEq,reduceIte,if_true,if_false,decide_true,decide_false,bS])),trivial⟩ (by rw[a7c,if_neg p38,if_pos p46];rfl) rfl
      ·refine go 15 ?_;exact a0o ⟨rfl,rfl,(bB (by simp only[a7P,p28,p38,p46,p57,h28,h38,h46,h57,Int.reduceEq,reduceIte,if_true,if_false,decide_true,decide_false,bS])),trivial⟩ (by rw[a7c,if_neg p38,if_pos p46];rfl) rfl
     ·refine gC 6 (fun h69 p69=>?_) fun h69 p69=>?_
      ·refine go 3 ?_;refine o_v rfl (a1L (e.use.cells) m1 he rfl rfl rfl) ?_;refine go 7 ?_;refine o_v rfl (a1L (e.use.cells) m1 he rfl rfl rfl) ?_;refine go 1 ?_;refine cV (c6e _ e.use) ?_;refine go 4 ?_;exact a0o ⟨rfl,rfl,(bB (by simp only[a7P,p28,p38,p46,p69,h28,h38,h46,h69,Int.reduceEq,reduceIte,if_true,if_false,decide_true,decide_false,bS])),trivial⟩ (by rw[a7c,if_neg p38,if_neg p46,if_pos p69];rfl) rfl
      ·refine gC 6 (fun h77 p77=>?_) fun h77 p77=>?_
       ·refine go 22 ?_;refine cV (b3U _ _ hs.2.2.2.2.1) ?_;refine gS 1 88 (fun h88 p88=>?_) fun h88 p88=>?_
        ·refine gS 6 94 (fun h94 p94=>?_) fun h94 p94=>?_
         ·refine go 9 ?_;exact a0o ⟨rfl,rfl,(bB (by simp only[a7P,p28,p38,p46,p69,p77,p88,p94,h28,h38,h46,h69,h77,h88,h94,Int.reduceEq,reduceIte,if_true,if_false,decide_true,decide_false,bS])),trivial⟩ (by rw[a7c,if_neg p38,if_neg p46,if_neg p69,if_pos p77];rfl) rfl
         ·refine go 9 ?_;exact a0o ⟨rfl,rfl,(bB (by simp only[a7P,p28,p38,p46,p69,p77,p88,p94,h28,h38,h46,h69,h77,h88,h94,Int.reduceEq,reduceIte,if_true,if_false,decide_true,decide_false,bS])),trivial⟩ (by rw[a7c,if_neg p38,if_neg p46,if_neg p69,if_pos p77];rfl) rfl
        ·refine go 15 ?_;exact a0o ⟨rfl,rfl,(bB (by simp only[a7P,p28,p38,p46,p69,p77,p88,h28,h38,h46,h69,h77,h88,Int.reduceEq,reduceIte,if_true,if_false,decide_true,decide_false,bS])),trivial⟩ (by rw[a7c,if_neg p38,if_neg p46,if_neg p69,if_pos p77];rfl) rfl
       ·refine go 3 ?_;exact a0o ⟨rfl,rfl,(bB (by simp only[a7P,p28,p38,p46,p69,p77,h28,h38,h46,h69,h77,Int.reduceEq,reduceIte,if_true,if_false,decide_true,decide_false,bS])),trivial⟩ (by rw[a7c,if_neg p38,if_neg p46,if_neg p69,if_neg p77];rfl) rfl
   ·refine gS 4 101 (fun h101 p101=>?_) fun h101 p101=>?_
    ·refine go 2 ?_;refine a0A (a0q rfl rfl h101 (a0t rfl (b0r T.eqg_130 (b2b (a7c e) e) rfl rfl) ?_));refine go 6 ?_;exact q_v (congrArg Value.bool (by rw[←a8h];simp only[b0s,h28,h101,bS]))
    ·refine go 9 ?_;exact q_v (congrArg Value.bool (by rw[←a8h];simp only[b0s,h28,h101,bS]))
end Go.Proofs.YtgmkjpafapgccaaGreat
namespace Go.Proofs.YtgmkjpafapgccaaGreat
open Go Go.Sx Tryz
set_option linter.all false
set_option maxRecDepth 20000
set_option maxHeartbeats 4000000
instance:Has (a6q prog 30) (109,2):=hk
instance:Has (a6q prog 45) (3,1):=hk
instance:Has (a1g prog 109 0) (0,false,1):=hk
instance:Has (a1g prog 109 1) (1,false,1):=hk
instance:Has (tyK prog 109) (true,2):=hk
instance:Has (tyK prog 30) (false,1):=hk
instance:Has (tyK prog 45) (false,1):=hk
instance:Has (prog.underlying 195) (.map 130 4):=hk
instance T.und_30:Has (prog.underlying 30) (.slice 109):=hk
instance:Has (prog.underlying 45) (.slice 3):=hk
instance:Has (a1i prog 109) [.slice none 0 0,.bool false]:=hk
theorem c7F:KeyOK prog 130 d4J:=a7R (cells:=Evt.cells) (by kernel_rfl) (fun p q=>b2b p q) (fun p=>by kernel_rfl) (fun p=>by simp[Evt.cells,b1U,b1T])
theorem a8O (I:IMap) (r:Rep) (S:Option Addr) (d:Nat) (hr:RdS I (.slice S r.options.length d) r.options) (hs:∀e∈r.options,SmE e) :
    FnV prog 40 #[.agg (r.cells (.slice S r.options.length d)).toArray] I (.bool (a0l r)):=by
 have hSA:RdA I S r.options:=(by obtain⟨_,_,e,h,_⟩:=hr;cases e;exact h);have hl4:d≤9223372036854775807:=(by obtain⟨_,_,e,h,h1,h2⟩:=hr;cases e;exact h2);have hl5:=hr.lenLe;refine enter func40 call40 rfl ntmps40 rfl fun w0=>?_;refine go 4 fun g1=>?_
 refine go 5 ?_;refine a1N (I':=I) (L':=[(1,.pointer (some ⟨g1,0,none⟩)),(15,.bool (decide (((r.options.length:Nat):Int)=0)||decide ((4:Int)<(r.options.length:Nat))))]) (H':=[.blk g1 109 (r.cells (.slice S r.options.length d))]) ?_ ?_
 ·refine gS 6 10 (fun h10 p10=>?_) fun h10 p10=>?_
  ·refine go 7 ?_;exact a0o ⟨rfl,(bB (by simp only[h10,bS])),trivial⟩ rfl rfl
  ·refine go 7 ?_;exact a0o ⟨rfl,(bB (by simp only[h10,bS])),trivial⟩ rfl rfl
 ·refine gC 0 (fun h15 p15=>?_) fun h15 p15=>?_
  ·refine go 8 ?_;exact q_v (congrArg Value.bool (by simp only[a0l,h15];rfl))
  ·refine go 5 ?_;refine a4W (d4J) he rfl fun r16=>?_;refine go 13 ?_
   refine a0x (α:=Nat) 0 (fun i=>I)
    (fun i=>[(1,.pointer (some ⟨g1,0,none⟩)),(3,.map (some r16)),(18,.slice S r.options.length d),(19,.int .i64 ((r.options.length:Nat):Int)),(20,.int .i64 ((i:Nat):Int))])
    (fun i=>[.mp r16 (a1u d4J (a2x _root_.id (fun _=>Value.bool true) (r.options.take i))),.blk g1 109 (r.cells (.slice S r.options.length d))])
    (fun i=>i≤r.options.length∧a3A a4m r.options i=true)
    (fun i=>r.options.length-i) ⟨Nat.zero_le _,rfl⟩ rfl sb rfl ?_
   intro i ⟨hi,hn⟩;refine gC 6 (fun h21 p21=>?_) fun h21 p21=>?_
   ·have hlt:i<r.options.length:=oM;refine go 6 ?_;obtain⟨b22,o22,w22,e22,c22,r22⟩:=RdA.at_ hSA (i:=i) hlt;obtain rfl:=r22;refine go 4 fun g5=>?_
    refine go 6 ?_;refine a1N (I':=I) (L':=[(1,.pointer (some ⟨g1,0,none⟩)),(3,.map (some r16)),(18,.slice S r.options.length d),(19,.int .i64 ((r.options.length:Nat):Int)),(20,.int .i64 ((i:Nat):Int)),(5,.pointer (some ⟨g5,0,none⟩)),(31,.bool (hit _root_.id (r.options.take i) r.options[i] || !a1t r.options[i]))]) (H':=[.blk g5 130 r.options[i].cells,.mp r16 (a1u d4J (a2x _root_.id (fun _=>Value.bool true) (r.options.take i))),.blk g1 109 (r.cells (.slice S r.options.length d))]) ?_ ?_
    ·refine go 3 ?_;refine o_v rfl (b9E m1 (c7F) he he (r.options[i]) rfl rfl (a8K _root_.id _ _)) ?_;refine gS 1 27 (fun h27 p27=>?_) fun h27 p27=>?_
     ·refine go 6 ?_;exact a0o ⟨rfl,rfl,rfl,rfl,rfl,rfl,(bB (by simp only[h21,h27,bS])),trivial⟩ rfl rfl
     ·refine go 2 ?_;refine a0q rfl rfl h27 (a0v (b5i _ r.options[i] (hs _ (List.getElem_mem hlt))) rfl rfl ?_);refine go 4 ?_;exact a0o ⟨rfl,rfl,rfl,rfl,rfl,rfl,(bB (by simp only[h21,h27,bS])),trivial⟩ rfl rfl
    ·refine gC 0 (fun h31 p31=>?_) fun h31 p31=>?_
     ·refine go 13 ?_;exact q_v (congrArg Value.bool (by simp only[a0l,h15,a1b hlt (show a4m (r.options.take i) r.options[i]=false from (congrArg not h31).trans rfl),bS]))
     ·refine go 6 ?_;have h31n:hit _root_.id (r.options.take i) r.options[i]=false:=by revert h31;cases hit _root_.id (r.options.take i) r.options[i]<;>simp
      refine a0b ?_;refine a2i (a2x _root_.id (fun _=>Value.bool true) (r.options.take (i+1))) (c7F) he (r.options[i]) rfl rfl rfl ((a9K _root_.id (fun _=>Value.bool true) (r.options.take i) r.options[i] (a6Z h31n)).trans (by rw[a0c hlt])) ?_;refine go 8 ?_;refine a0b ?_;refine a0a ?_;exact a0w (i+1) ⟨oM,a1l hn hlt (show a4m (r.options.take i) r.options[i]=true from (congrArg not h31).trans rfl)⟩ oM rfl sb rfl
   ·refine go 12 ?_;have e:i=r.options.length:=oM;subst e;exact q_v (congrArg Value.bool (by simp only[a0l,hn,h15];rfl))
theorem a5a (I:IMap) (r:Rep) (S:Option Addr) (d:Nat) (hr:RdS I (.slice S r.options.length d) r.options) (hs:∀e∈r.options,SmE e) :
    FnV prog 66 #[.agg (r.cells (.slice S r.options.length d)).toArray] I (.int .i64 (chs r)):=by
 have hl5:=hr.lenLe;refine enter func66 call66 rfl ntmps66 rfl fun w0=>?_;refine go 4 fun g1=>?_
 refine go 9 ?_;refine cV (a8O _ r S d hr hs) ?_;refine gC 4 (fun h3 p3=>?_) fun h3 p3=>?_
 ·refine go 9 ?_;exact q_v (congrArg (Value.int .i64) (by simp only[chs,show a0l r=false by simpa using h3,Bool.true_eq_false,Bool.false_eq_true,if_true,if_false]))
 ·have hl4:=a2S (r:=r) (by simpa using h3);refine gC 7 (fun h7 p7=>?_) fun h7 p7=>?_
  ·refine go 5 ?_;refine o_v rfl (a2h rfl rfl ⟨oM,by have:=hl4;omega⟩) ?_;refine go 7 ?_;exact q_v (congrArg (Value.int .i64) (by simp only[chs,show a0l r=true by simpa using h3,h7,Bool.true_eq_false,Bool.false_eq_true,if_true,if_false]))
  ·refine go 13 ?_;exact q_v (congrArg (Value.int .i64) (by simp only[chs,show a0l r=true by simpa using h3,h7,Bool.true_eq_false,Bool.false_eq_true,if_true,if_false]))
theorem c9s (I:IMap) (vc:Value) (c:List Kind) (hvc:RdS I vc c) (hsc:SmC c) (v:Value) (l:List Rep) (hv:RdS I v l) (hsl:∀r∈l,∀e∈r.options,SmE e) (w:Value) (ch:List Int) (hw:RdS I w ch) (n:Int) :
    FnV prog 216 #[.agg #[vc],v,w,.int .i64 n] I (.bool (a6Y c l ch n)):=by
 obtain⟨A,c0,rfl,hA,hc,hm⟩:=hv;obtain⟨B,c1,rfl,hB,hc1,hm1⟩:=hw;refine enter func216 call216 rfl ntmps216 rfl fun w0=>?_;refine go 4 fun g4=>?_
 refine go 5 ?_;refine a1N (I':=I) (L':=[(4,.pointer (some ⟨g4,0,none⟩)),(1,.slice A l.length c0),(2,.slice B ch.length c1),(3,.int .i64 n),(21,.bool (!a2p c || !decide (((ch.length:Nat):Int)=(l.length:Nat))))]) (H':=[.blk g4 24 [vc]]) ?_ ?_
 ·refine go 3 ?_;refine cV (a6N _ vc c hvc hsc) ?_;refine gS 2 15 (fun h15 p15=>?_) fun h15 p15=>?_
  ·refine go 8 ?_;exact a0o ⟨rfl,rfl,rfl,rfl,(bB (by simp only[h15,bS])),trivial⟩ rfl rfl
  ·refine go 8 ?_;exact a0o ⟨rfl,rfl,rfl,rfl,(bB (by simp only[h15,bS])),trivial⟩ rfl rfl
 ·refine gC 0 (fun h21 p21=>?_) fun h21 p21=>?_
  ·refine go 8 ?_;exact q_v (congrArg Value.bool (by simp only[a6Y,h21];rfl))
  ·have hlc:ch.length=l.length:=by revert h21;simp;omega
   refine go 11 ?_
   refine a0x (α:=Nat) 0 (fun i=>I)
    (fun i=>[(4,.pointer (some ⟨g4,0,none⟩)),(1,.slice A l.length c0),(2,.slice B ch.length c1),(3,.int .i64 n),(22,.slice A l.length c0),(23,.int .i64 ((l.length:Nat):Int)),(24,.int .i64 ((i:Nat):Int))])
    (fun i=>[.blk g4 24 [vc]])
    (fun i=>i≤l.length∧a8Z (b0Y n) l ch i=true)
    (fun i=>l.length-i) ⟨Nat.zero_le _,rfl⟩ rfl sb rfl ?_
   intro i ⟨hi,hn⟩;refine gC 6 (fun h25 p25=>?_) fun h25 p25=>?_
   ·have hlt:i<l.length:=oM;have hlt2:i<ch.length:=oM;refine go 7 ?_;obtain⟨b27,o27,w27,e27,c27,r27⟩:=RdA.at_ hA (i:=i) hlt;obtain⟨q27,rfl,S27,d27,rfl,hS27,hd27,hm27⟩:=r27;refine go 4 fun g10=>?_
    refine go 9 ?_;refine cV (a5a _ l[i] S27 d27 ⟨_,_,rfl,hS27,hd27,hm27⟩ (hsl _ (List.getElem_mem hlt))) ?_;refine go 4 ?_;refine a1N (I':=I) (L':=[(4,.pointer (some ⟨g4,0,none⟩)),(1,.slice A l.length c0),(2,.slice B ch.length c1),(3,.int .i64 n),(22,.slice A l.length c0),(23,.int .i64 ((l.length:Nat):Int)),(24,.int .i64 ((i:Nat):Int)),(48,.bool ((decide (chs l[i]=0)||decide (ch[i]<n))||decide (chs l[i]≤ch[i])))]) (H':=[.blk g4 24 [vc]]) ?_ ?_
    ·refine gS 4 33 (fun h33 p33=>?_) fun h33 p33=>?_
     ·refine go 17 ?_;refine a0a ?_;exact a0o ⟨rfl,rfl,rfl,rfl,rfl,rfl,rfl,(bB (by simp only[h25,h33,bS])),trivial⟩ rfl rfl
     ·refine go 2 ?_;obtain⟨b36,o36,w36,e36,c36,r36⟩:=RdA.at_ hB (i:=i) hlt2;obtain rfl:=r36;refine a0A (a0q rfl rfl h33 (a0t rfl (a0m he rfl rfl e36 (i) oM hlt2) ?_));refine gS 5 41 (fun h41 p41=>?_) fun h41 p41=>?_
      ·refine go 9 ?_;refine a0a ?_;exact a0o ⟨rfl,rfl,rfl,rfl,rfl,rfl,rfl,(bB (by simp only[h25,h33,h41,bS])),trivial⟩ rfl rfl
      ·refine go 2 ?_;obtain⟨b44,o44,w44,e44,c44,r44⟩:=RdA.at_ hB (i:=i) hlt2;obtain rfl:=r44;refine a0A (a0q rfl rfl h41 (a0t rfl (a0m he rfl rfl e44 (i) oM hlt2) ?_));refine go 6 ?_;refine a0a ?_;exact a0o ⟨rfl,rfl,rfl,rfl,rfl,rfl,rfl,(bB (by simp only[h25,h33,h41,bS])),trivial⟩ rfl rfl
    ·refine gC 0 (fun h48 p48=>?_) fun h48 p48=>?_
     ·refine go 12 ?_;exact q_v (congrArg Value.bool (by simp only[a6Y,h21,b3d (f:=b0Y n) hlt hlt hlt2 (by simp only[b0Y,h48];rfl),bS]))
     ·refine go 8 ?_;exact a0w (i+1) ⟨oM,a7G hn hlt hlt2 (by simp only[b0Y,h48];rfl)⟩ oM rfl sb rfl
   ·refine go 12 ?_;have e:i=l.length:=oM;subst e;exact q_v (congrArg Value.bool (by simp only[a6Y,hn,h21];rfl))
theorem d2F (I:IMap) (A B:Option Addr) (a c b d:Nat) :
    FnI prog 262 #[.slice A a c,.slice B b d] I (fun u J=>∃g2 g3,u = .func (.func 310) #[] #[.pointer (some ⟨g2,0,none⟩),.pointer (some ⟨g3,0,none⟩)]∧ICells J g2 0 [.slice A a c]∧ICells J g3 0 [.slice B b d]):=by
 refine enter func262 call262 rfl ntmps262 rfl fun w0=>?_;refine go 4 fun g2=>?_
 refine go 2 fun g3=>?_
 refine go 5 ?_;refine a0b ?_;refine a0B fun Ig2 jg2 cg2=>?_;refine a0B fun Ig3 jg3 cg3=>?_;have cg2:=(cg2).le jg3;refine go 6 ?_;exact q_i ⟨_,_,rfl,cg2,cg3⟩
theorem d2m (I:IMap) (v:Value) (l:List Rep) (hv:RdS I v l) (w:Value) (ch:List Int) (hw:RdS I w ch) (hlc:ch.length=l.length) (g2 g3:Nat) (c2:ICells I g2 0 [v]) (c3:ICells I g3 0 [w]) :
    b9N prog 310 [.pointer (some ⟨g2,0,none⟩),.pointer (some ⟨g3,0,none⟩)] I (fun _ vs (x:Int)=>vs=[ci x]) (fun pre x=>pre++[x] <+: a2k l ch l.length) (fun pre=>pre=a2k l ch l.length) (fun _=>True):=by
 obtain⟨A,c0,rfl,hA,hc,hm⟩:=hv;obtain⟨B,c1,rfl,hB,hc1,hm1⟩:=hw;intro ly J I1 Hc hI1 hJm hY hJ0;have hA:=hA.le hI1;have hB:=hB.le hI1;have c2:=c2.le hI1;have c3:=c3.le hI1;refine enter func310 call310 rfl ntmps310 rfl fun w0=>?_;refine go 8 ?_
 refine a3k ((0:Nat)) (I1) (Hc) (fun i I2 Hc=>I2)
  (fun i I2 Hc=>[(0,.func (.yield ly) #[] #[]),(1,.pointer (some ⟨g2,0,none⟩)),(2,.pointer (some ⟨g3,0,none⟩)),(8,.slice A l.length c0),(9,.int .i64 ((l.length:Nat):Int)),(10,.int .i64 ((i:Nat):Int))])
  (fun i I2 Hc=>Hc)
  (fun i I2 Hc=>i≤l.length∧ILe I1 I2∧J true (a2k l ch i) I2 Hc)
  (fun i I2 Hc=>l.length-i) ⟨Nat.zero_le _,ILe.refl _,hJ0⟩ rfl sb rfl ?_
 intro i I2 Hc ⟨hi,hI2,hJ⟩;have hA:=hA.le hI2;have hB:=hB.le hI2;have c3:=c3.le hI2;refine gC 6 (fun h11 p11=>?_) fun h11 p11=>?_
 ·have hlt:i<l.length:=oM;have hlt2:i<ch.length:=oM;refine go 7 ?_;obtain⟨b13,o13,w13,e13,c13,r13⟩:=RdA.at_ hA (i:=i) hlt;obtain⟨q13,rfl,S13,d13,rfl,hS13,hd13,hm13⟩:=r13;refine go 4 fun g5=>?_
  refine go 14 ?_
  refine a3k ((0:Nat)) (I2) (Hc) (fun j I3 Hc3=>I3)
   (fun j I3 Hc3=>[(0,.func (.yield ly) #[] #[]),(1,.pointer (some ⟨g2,0,none⟩)),(2,.pointer (some ⟨g3,0,none⟩)),(8,.slice A l.length c0),(9,.int .i64 ((l.length:Nat):Int)),(10,.int .i64 ((i:Nat):Int)),(4,.int .i64 ((i:Nat):Int)),(5,.pointer (some ⟨g5,0,none⟩)),(16,.slice S13 l[i].options.length d13),(17,.int .i64 ((l[i].options.length:Nat):Int)),(18,.int .i64 ((j:Nat):Int))])
   (fun j I3 Hc3=>.blk g5 109 (l[i].cells (.slice S13 l[i].options.length d13))::Hc3)
   (fun j I3 Hc3=>j≤l[i].options.length∧ILe I2 I3∧J true (a4X l ch i j) I3 Hc3)
   (fun j I3 Hc3=>l[i].options.length-j) ⟨Nat.zero_le _,ILe.refl _,by rw[b5P];exact hJ⟩ rfl sb rfl ?_
  intro j I3 Hc3 ⟨hj,hI3,hJ3⟩;have hB:=hB.le hI3;have c3:=c3.le hI3;have hS13:=hS13.le hI3;refine gC 6 (fun h19 p19=>?_) fun h19 p19=>?_
  ·have hlj:j<l[i].options.length:=oM;refine go 6 ?_;obtain⟨b20,o20,w20,e20,c20,r20⟩:=RdA.at_ hS13 (i:=j) hlj;obtain rfl:=r20;refine o_v rfl (a0m he rfl rfl e20 (j) oM hlj) ?_;refine go 3 fun g7=>?_
   refine go 8 ?_;obtain⟨b24,o24,w24,e24,c24,r24⟩:=RdA.at_ hB (i:=i) hlt2;obtain rfl:=r24;refine o_v rfl (a0m he rfl rfl e24 (i) oM hlt2) ?_;refine gS 3 27 (fun h27 p27=>?_) fun h27 p27=>?_
   ·refine go 4 ?_;refine a0q rfl rfl h27 (b7y (l[i].options[j].day) hY (hJm _ _ _ _ _ (ILe.refl _) hJ3) (rfl) (b8Z hlt hlt2 p27 hlj) rfl rfl rfl (fun b31 I31 Hc31 j31 hJ31=>?_));refine gC 4 (fun h33 p33=>?_) fun h33 p33=>?_
    ·have hb31:b31=false:=by simpa using h33
     refine go 10 ?_;refine a0a ?_;refine a0a ?_;subst hb31;exact c2s false _ hJ31 trivial
    ·have hb31:b31=true:=by simpa using h33
     refine go 8 ?_;refine a0a ?_;exact a1P (j+1) (I31) (Hc31) ⟨oM,hI3.trans j31,by rw[a9X hlt hlt2 p27 hlj];exact hb31▸hJ31⟩ oM rfl sb rfl
   ·refine go 17 ?_;refine a0a ?_;exact a1P (j+1) (I3) (Hc3) ⟨oM,hI3,by rw[b5O hlt hlt2 p27 j];exact hJ3⟩ oM rfl sb rfl
  ·refine go 11 ?_;refine a0a ?_;exact a1P (i+1) (I3) (Hc3) ⟨oM,hI2.trans hI3,by rw[←b1z hlt hlt2];exact (show j=l[i].options.length from oM)▸hJ3⟩ oM rfl sb rfl
 ·have hil:i=l.length:=oM;refine go 5 ?_;exact c2s true _ hJ (by rw[hil];rfl)
end Go.Proofs.YtgmkjpafapgccaaGreat
namespace Go.Proofs.YtgmkjpafapgccaaGreat
open Go Go.Sx Tryz
set_option linter.all false
set_option maxRecDepth 20000
set_option maxHeartbeats 4000000
instance:Has (a1W prog 390) ([.int .i64 0,.int .i64 0,.string ⟨#[]⟩,.string ⟨#[]⟩,.string ⟨#[]⟩,.string ⟨#[]⟩,.string ⟨#[]⟩,.string ⟨#[]⟩,.int .i64 0,.int .i64 0,.int .i64 0,.int .i64 0,.int .i64 0,.int .i64 0,.int .i64 0],15,168):=hk
instance:Has (a6q prog 388) (390,15):=hk
instance:Has (a1g prog 390 0) (0,true,14):=hk
instance:Has (a1g prog 390 1) (14,false,1):=hk
instance:Has (plK prog 390) [(0,14),(14,1)]:=hk
instance:Has (tyK prog 390) (true,15):=hk
instance:Has (prog.underlying 388) (.slice 390):=hk
instance:Has (a1i prog 390) [.int .i64 0,.int .i64 0,.string ⟨#[]⟩,.string ⟨#[]⟩,.string ⟨#[]⟩,.string ⟨#[]⟩,.string ⟨#[]⟩,.string ⟨#[]⟩,.int .i64 0,.int .i64 0,.int .i64 0,.int .i64 0,.int .i64 0,.int .i64 0,.int .i64 0]:=hk
theorem a8e (I:IMap) {rest:Rst 15} {cap:Nat} (l:List Pkd) (N:Nat) (hN:l.length=N) (g a b n:Nat) (f:FuncId) (h:a+n≤b) (hb:b+n≤l.length) (hl:l.length≤1000000) :
    FnM prog 354 #[.slice (some ⟨g,0,none⟩) N cap,.int .i64 ((a:Nat):Int),.int .i64 ((b:Nat):Int),.int .i64 ((n:Nat):Int),.func (.func f) #[] #[]] I (.blk g 390 (a1o (l)++rest.l).flatten) (.blk g 390 (a1o (a8T l a b n)++rest.l).flatten):=by
 refine enter func354 call354 rfl ntmps354 rfl fun w0=>?_;refine go 6 ?_
 refine a0x (α:=Nat) 0 (fun i=>I)
  (fun i=>[(0,.slice (some ⟨g,0,none⟩) N cap),(1,.int .i64 ((a:Nat):Int)),(2,.int .i64 ((b:Nat):Int)),(3,.int .i64 ((n:Nat):Int)),(10,.int .i64 ((i:Nat):Int))])
  (fun i=>[.blk g 390 (a1o (a8T l a b i)++rest.l).flatten])
  (fun i=>i≤n)
  (fun i=>n-i) (Nat.zero_le _) rfl sb rfl ?_
 intro i hi;refine gC 8 (fun h13 p13=>?_) fun h13 p13=>?_
 ·have hlt:i<n:=oM;have hm:=a3z l a b i;have h1:a+i<(a8T l a b i).length:=oM;have h2:b+i<(a8T l a b i).length:=oM;refine go 4 ?_;refine ds1 ?_;refine dG 0 12 ?_;refine a0I 12 rfl rfl (by kernel_rfl) rfl (.cons _ .slnil) rfl (a0m he rfl rfl rfl (b+i) oM oM) ?_;refine dG 14 4 ?_;refine a0I 18 rfl rfl (by kernel_rfl) rfl (.cons _ .slnil) rfl (a0m he rfl rfl rfl (a+i) oM oM) ?_;refine dT2 13 19 ?_ ?_
  ·refine a0t rfl (a1y m0 ((a0k _).append rest.uk) he rfl (b+i) oM (a0C h2)) ?_;refine dH 19 0 ?_;refine a0t rfl (a1y m0 ((a0k _).append rest.uk) he rfl (a+i) oM (a0C h1)) ?_;refine go 1 ?_;refine a0I 20 rfl rfl (by kernel_rfl) rfl (.cons _ .slnil) rfl (a0m he rfl rfl rfl (a+i) oM oM) ?_;refine dH 21 0 ?_;refine a1O _ (a+i) (by first|exact (a0k _).append rest.uk|exact ((a0k _).append rest.uk).set rfl _) he rfl rfl rfl rfl rfl oM (by simp[a0s];omega) ?_;refine go 1 ?_;refine a0I 22 rfl rfl (by kernel_rfl) rfl (.cons _ .slnil) rfl (a0m he rfl rfl rfl (b+i) oM oM) ?_;refine dH 23 0 ?_;refine a1O _ (b+i) (by first|exact (a0k _).append rest.uk|exact ((a0k _).append rest.uk).set rfl _) he rfl rfl rfl rfl rfl oM (by simp[a0s];omega) ?_;refine go 10 ?_;exact a0w (i+1) oM oM rfl sb (by rw[a8T];first|rw[←a3G h1 h2] | rw[←a2P h1 h2 oM])
  ·refine a0t rfl (a1y m0 ((a0k _).append rest.uk) he rfl (a+i) oM (a0C h1)) ?_;refine dH 13 0 ?_;refine a0t rfl (a1y m0 ((a0k _).append rest.uk) he rfl (b+i) oM (a0C h2)) ?_;refine go 1 ?_;refine a0I 20 rfl rfl (by kernel_rfl) rfl (.cons _ .slnil) rfl (a0m he rfl rfl rfl (a+i) oM oM) ?_;refine dH 21 0 ?_;refine a1O _ (a+i) (by first|exact (a0k _).append rest.uk|exact ((a0k _).append rest.uk).set rfl _) he rfl rfl rfl rfl rfl oM (by simp[a0s];omega) ?_;refine go 1 ?_;refine a0I 22 rfl rfl (by kernel_rfl) rfl (.cons _ .slnil) rfl (a0m he rfl rfl rfl (b+i) oM oM) ?_;refine dH 23 0 ?_;refine a1O _ (b+i) (by first|exact (a0k _).append rest.uk|exact ((a0k _).append rest.uk).set rfl _) he rfl rfl rfl rfl rfl oM (by simp[a0s];omega) ?_;refine go 10 ?_;exact a0w (i+1) oM oM rfl sb (by rw[a8T];first|rw[←a3G h1 h2] | rw[←a2P h1 h2 oM])
 ·refine go 5 ?_;obtain rfl:i=n:=oM;exact q_m
theorem b6X (I:IMap) {rest:Rst 15} {cap:Nat} (l:List Pkd) (N:Nat) (hN:l.length=N) (g a b:Nat) (f:FuncId) (hp:∀x y:Pkd,FnV prog f #[.agg (Day.ch x).toArray,.agg (Day.ch y).toArray] I (.int .i64 ((Day.day x-Day.day y)))) (hab:a≤b) (hb:b≤l.length) (hl:l.length≤1000000) :
    FnX prog 343 #[.slice (some ⟨g,0,none⟩) N cap,.int .i64 ((a:Nat):Int),.int .i64 ((b:Nat):Int),.func (.func f) #[] #[]] I [.blk g 390 (a1o (l)++rest.l).flatten] (fun u r=>u = .tuple #[]∧∃m,r = .blk g 390 (a1o (m)++rest.l).flatten∧Seg l m a b):=by
 refine enter func343 call343 rfl ntmps343 rfl fun w0=>?_;refine go 3 ?_;refine o_v rfl (OV.cast (u:=.int .i64 ((a+1:Nat):Int)) (a2h rfl rfl ⟨oM,oM⟩) (congrArg (Value.int .i64) oM)) ?_;refine go 4 ?_
 refine a0L (a+1) (l) (fun i m=>I)
  (fun i m=>[(0,.slice (some ⟨g,0,none⟩) N cap),(1,.int .i64 ((a:Nat):Int)),(2,.int .i64 ((b:Nat):Int)),(3,.func (.func f) #[] #[]),(8,.int .i64 ((i:Nat):Int))])
  (fun i m=>[.blk g 390 (a1o (m)++rest.l).flatten])
  (fun i m=>a+1≤i∧(i≤b∨(m=l∧i=a+1))∧Seg l m a i)
  (fun i m=>b-i) ⟨Nat.le_refl _,.inr ⟨rfl,rfl⟩,Seg.one l a⟩ rfl sb rfl ?_
 intro i m ⟨h1,h2,hs⟩;refine gC 8 (fun h14 p14=>?_) fun h14 p14=>?_
 ·have hlt:i<b:=oM;refine go 11 ?_
  refine a0L (i) (m) (fun j k=>I)
   (fun j k=>[(0,.slice (some ⟨g,0,none⟩) N cap),(1,.int .i64 ((a:Nat):Int)),(2,.int .i64 ((b:Nat):Int)),(3,.func (.func f) #[] #[]),(8,.int .i64 ((i:Nat):Int)),(9,.int .i64 ((j:Nat):Int))])
   (fun j k=>[.blk g 390 (a1o (k)++rest.l).flatten])
   (fun j k=>a≤j∧j≤i∧Ins l k a i j)
   (fun j k=>j) ⟨oM,Nat.le_refl _,Ins.start hs⟩ rfl sb rfl ?_
  intro j k ⟨hj1,hj2,hk⟩;have hkl:=hk.len;refine go 3 ?_;refine dG 0 4 ?_;refine gS 0 21 (fun h21 p21=>?_) fun h21 p21=>?_
  ·have hjk:j<k.length:=oM;have hjk1:j-1<k.length:=oM;refine dG 4 3 ?_;refine d_t 7 rfl rfl (by kernel_rfl) rfl (fun _ m=>m.keeps (.refl _)) (a2V rfl rfl h21 (a0m he rfl rfl rfl (j) oM oM)) ?_;refine d_t 8 rfl rfl (by kernel_rfl) rfl (fun _ m=>m.keeps (.refl _)) (a2V rfl rfl h21 (a1y m0 ((a0k _).append rest.uk) he rfl (j) oM (a0C hjk))) ?_;refine dG 9 3 ?_;refine d_t 12 rfl rfl (by kernel_rfl) rfl (fun _ m=>m.keeps (.refl _)) (a2V rfl rfl h21 (a0m he rfl rfl rfl (j-1) oM oM)) ?_;refine d_t 13 rfl rfl (by kernel_rfl) rfl (fun _ m=>m.keeps (.refl _)) (a2V rfl rfl h21 (a1y m0 ((a0k _).append rest.uk) he rfl (j-1) oM (a0C hjk1))) ?_;refine dH 14 0 ?_;refine a0q rfl rfl h21 (a0v (hp _ _) rfl rfl ?_);refine dG 15 2 ?_;refine gC 2 (fun h34 p34=>?_) fun h34 p34=>?_
   ·refine go 4 ?_;refine ds1 ?_;refine dG 0 8 ?_;refine a0I 8 rfl rfl (by kernel_rfl) rfl (.cons _ .slnil) rfl (a0m he rfl rfl rfl (j-1) oM oM) ?_;refine dG 10 2 ?_;refine a0I 12 rfl rfl (by kernel_rfl) rfl (.cons _ .slnil) rfl (a0m he rfl rfl rfl (j) oM oM) ?_;refine dT2 9 13 ?_ ?_
    ·refine a0t rfl (a1y m0 ((a0k _).append rest.uk) he rfl (j-1) oM (a0C hjk1)) ?_;refine dH 13 0 ?_;refine a0t rfl (a1y m0 ((a0k _).append rest.uk) he rfl (j) oM (a0C hjk)) ?_;refine go 1 ?_;refine a0I 14 rfl rfl (by kernel_rfl) rfl (.cons _ .slnil) rfl (a0m he rfl rfl rfl (j) oM oM) ?_;refine dH 15 0 ?_;refine a1O _ (j) (by first|exact (a0k _).append rest.uk|exact ((a0k _).append rest.uk).set rfl _) he rfl rfl rfl rfl rfl oM (by simp[a0s];omega) ?_;refine go 1 ?_;refine a0I 16 rfl rfl (by kernel_rfl) rfl (.cons _ .slnil) rfl (a0m he rfl rfl rfl (j-1) oM oM) ?_;refine dH 17 0 ?_;refine a1O _ (j-1) (by first|exact (a0k _).append rest.uk|exact ((a0k _).append rest.uk).set rfl _) he rfl rfl rfl rfl rfl oM (by simp[a0s];omega) ?_;refine go 6 ?_;refine o_v rfl (OV.cast (u:=.int .i64 ((j-1:Nat):Int)) (a1f rfl rfl ⟨oM,oM⟩) (congrArg (Value.int .i64) oM)) ?_;refine go 3 ?_;exact a0n (j-1) (swp k j (j-1)) ⟨oM,oM,hk.step oM oM oM (by have:=p34;simp only[a7z]at this;rw[a0Z oM,a0Z oM];exact this)⟩ oM rfl sb (by first|rw[←a3G (show j<k.length from oM) (show j-1<k.length from oM)] | rw[←a2P (show j<k.length from oM) (show j-1<k.length from oM) oM])
    ·refine a0t rfl (a1y m0 ((a0k _).append rest.uk) he rfl (j) oM (a0C hjk)) ?_;refine dH 9 0 ?_;refine a0t rfl (a1y m0 ((a0k _).append rest.uk) he rfl (j-1) oM (a0C hjk1)) ?_;refine go 1 ?_;refine a0I 14 rfl rfl (by kernel_rfl) rfl (.cons _ .slnil) rfl (a0m he rfl rfl rfl (j) oM oM) ?_;refine dH 15 0 ?_;refine a1O _ (j) (by first|exact (a0k _).append rest.uk|exact ((a0k _).append rest.uk).set rfl _) he rfl rfl rfl rfl rfl oM (by simp[a0s];omega) ?_;refine go 1 ?_;refine a0I 16 rfl rfl (by kernel_rfl) rfl (.cons _ .slnil) rfl (a0m he rfl rfl rfl (j-1) oM oM) ?_;refine dH 17 0 ?_;refine a1O _ (j-1) (by first|exact (a0k _).append rest.uk|exact ((a0k _).append rest.uk).set rfl _) he rfl rfl rfl rfl rfl oM (by simp[a0s];omega) ?_;refine go 6 ?_;refine o_v rfl (OV.cast (u:=.int .i64 ((j-1:Nat):Int)) (a1f rfl rfl ⟨oM,oM⟩) (congrArg (Value.int .i64) oM)) ?_;refine go 3 ?_;exact a0n (j-1) (swp k j (j-1)) ⟨oM,oM,hk.step oM oM oM (by have:=p34;simp only[a7z]at this;rw[a0Z oM,a0Z oM];exact this)⟩ oM rfl sb (by first|rw[←a3G (show j<k.length from oM) (show j-1<k.length from oM)] | rw[←a2P (show j<k.length from oM) (show j-1<k.length from oM) oM])
   ·refine go 12 ?_;exact a0n (i+1) (k) ⟨oM,.inl oM,hk.done oM oM (.inr (by have:=p34;simp only[a7z]at this;rw[a0Z oM,a0Z oM];omega))⟩ oM rfl sb rfl
  ·refine dG 4 13 ?_;refine go 15 ?_;exact a0n (i+1) (k) ⟨oM,.inl oM,hk.done oM oM (.inl oM)⟩ oM rfl sb rfl
 ·refine go 5 ?_;exact q_x (by refine⟨rfl,m,rfl,?_⟩;rcases h2 with h2|⟨rfl,h2⟩;exact (show i=b from oM)▸hs;exact Seg.none oM)
theorem d0G (I:IMap) {rest:Rst 15} {cap:Nat} (l:List Pkd) (N:Nat) (hN:l.length=N) (g a m b:Nat) (f:FuncId) (ham:a<m) (hmb:m<b) (hb:b≤l.length) (hl:l.length≤1000000) :
    FnX prog 352 #[.slice (some ⟨g,0,none⟩) N cap,.int .i64 ((a:Nat):Int),.int .i64 ((m:Nat):Int),.int .i64 ((b:Nat):Int),.func (.func f) #[] #[]] I [.blk g 390 (a1o (l)++rest.l).flatten] (fun u r=>u = .tuple #[]∧∃k,r = .blk g 390 (a1o (k)++rest.l).flatten∧k.length=l.length∧∀q,k[q]? = a8a (l[·]?) m (m-a) (b-m) q):=by
 refine enter func352 call352 rfl ntmps352 rfl fun w0=>?_;refine go 4 ?_;refine o_v rfl (OV.cast (u:=.int .i64 ((m-a:Nat):Int)) (a1f rfl rfl ⟨oM,oM⟩) (congrArg (Value.int .i64) oM)) ?_;refine go 7 ?_;refine o_v rfl (OV.cast (u:=.int .i64 ((b-m:Nat):Int)) (a1f rfl rfl ⟨oM,oM⟩) (congrArg (Value.int .i64) oM)) ?_;refine go 5 ?_
 refine a3k (m-a) (b-m) (l) (fun i j k=>I)
  (fun i j k=>[(0,.slice (some ⟨g,0,none⟩) N cap),(1,.int .i64 ((a:Nat):Int)),(2,.int .i64 ((m:Nat):Int)),(3,.int .i64 ((b:Nat):Int)),(4,.func (.func f) #[] #[]),(10,.int .i64 ((i:Nat):Int)),(11,.int .i64 ((j:Nat):Int))])
  (fun i j k=>[.blk g 390 (a1o (k)++rest.l).flatten])
  (fun i j k=>1≤i∧1≤j∧i≤m∧m+j≤l.length∧k.length=l.length∧∀q,a8a (k[·]?) m i j q=a8a (l[·]?) m (m-a) (b-m) q)
  (fun i j k=>i+j) ⟨oM,oM,oM,oM,rfl,fun q=>rfl⟩ rfl sb rfl ?_
 intro i j k ⟨hi1,hj1,him,hmj,hkl,hk⟩;refine gC 8 (fun h20 p20=>?_) fun h20 p20=>?_
 ·refine gC 10 (fun h23 p23=>?_) fun h23 p23=>?_
  ·refine go 5 ?_;refine o_v rfl (OV.cast (u:=.int .i64 ((m-i:Nat):Int)) (a1f rfl rfl ⟨oM,oM⟩) (congrArg (Value.int .i64) oM)) ?_;refine go 4 ?_;refine a2J (a8e _ k N oM g (m-i) m j f oM oM oM) rfl rfl ?_;refine go 5 ?_;refine o_v rfl (OV.cast (u:=.int .i64 ((i-j:Nat):Int)) (a1f rfl rfl ⟨oM,oM⟩) (congrArg (Value.int .i64) oM)) ?_;refine go 4 ?_;exact a1P (i-j) (j) (a8T k (m-i) m j) ⟨oM,oM,oM,oM,(a3z _ _ _ _).trans hkl,fun q=>(c7R oM oM (a5l _ oM oM) q).trans (hk q)⟩ oM rfl sb rfl
  ·refine go 5 ?_;refine o_v rfl (OV.cast (u:=.int .i64 ((m-i:Nat):Int)) (a1f rfl rfl ⟨oM,oM⟩) (congrArg (Value.int .i64) oM)) ?_;refine go 4 ?_;refine o_v rfl (OV.cast (u:=.int .i64 ((m+j-i:Nat):Int)) (a1f rfl rfl ⟨oM,oM⟩) (congrArg (Value.int .i64) oM)) ?_;refine go 3 ?_;refine a2J (a8e _ k N oM g (m-i) (m+j-i) i f oM oM oM) rfl rfl ?_;refine go 5 ?_;refine o_v rfl (OV.cast (u:=.int .i64 ((j-i:Nat):Int)) (a1f rfl rfl ⟨oM,oM⟩) (congrArg (Value.int .i64) oM)) ?_;refine go 4 ?_;exact a1P (i) (j-i) (a8T k (m-i) (m+j-i) i) ⟨oM,oM,oM,oM,(a3z _ _ _ _).trans hkl,fun q=>(c7S oM oM (a5l _ oM oM) q).trans (hk q)⟩ oM rfl sb rfl
 ·obtain rfl:i=j:=by have:=p20;omega
  refine go 9 ?_;refine o_v rfl (OV.cast (u:=.int .i64 ((m-i:Nat):Int)) (a1f rfl rfl ⟨oM,oM⟩) (congrArg (Value.int .i64) oM)) ?_;refine go 4 ?_;refine a2J (a8e _ k N oM g (m-i) m i f oM oM oM) rfl rfl ?_;refine go 2 ?_;exact q_x ⟨rfl,a8T k (m-i) m i,rfl,(a3z _ _ _ _).trans hkl,fun q=>(c7Q him (a5l _ oM oM) q).trans (hk q)⟩
theorem b9A (I:IMap) {rest:Rst 15} {cap:Nat} (N g:Nat) (f:FuncId) (hp:∀x y:Pkd,FnV prog f #[.agg (Day.ch x).toArray,.agg (Day.ch y).toArray] I (.int .i64 ((Day.day x-Day.day y)))) (hN0:N≤1000000) (W:Nat) (ih:∀(l:List Pkd) (a m b:Nat),l.length=N→b-a<W→a<m→m<b→b≤l.length→SrtD l a m→SrtD l m b→FnX prog 344 #[.slice (some ⟨g,0,none⟩) N cap,.int .i64 ((a:Nat):Int),.int .i64 ((m:Nat):Int),.int .i64 ((b:Nat):Int),.func (.func f) #[] #[]] I [.blk g 390 (a1o (l)++rest.l).flatten] (fun u r=>u = .tuple #[]∧∃m,r = .blk g 390 (a1o (m)++rest.l).flatten∧Seg l m a b)) (l:List Pkd) (a m b:Nat) (hN:l.length=N) (hW:b-a≤W) (ham:a<m) (hmb:m<b) (hb:b≤l.length) (m1:SrtD l a m) (m2:SrtD l m b) :
    FnX prog 344 #[.slice (some ⟨g,0,none⟩) N cap,.int .i64 ((a:Nat):Int),.int .i64 ((m:Nat):Int),.int .i64 ((b:Nat):Int),.func (.func f) #[] #[]] I [.blk g 390 (a1o (l)++rest.l).flatten] (fun u r=>u = .tuple #[]∧∃m,r = .blk g 390 (a1o (m)++rest.l).flatten∧Seg l m a b):=by
 refine enter func344 call344 rfl ntmps344 rfl fun w0=>?_;refine go 5 ?_;refine o_v rfl (OV.cast (u:=.int .i64 ((m-a:Nat):Int)) (a1f rfl rfl ⟨oM,oM⟩) (congrArg (Value.int .i64) oM)) ?_;refine gC 3 (fun h28 p28=>?_) fun h28 p28=>?_
 ·obtain rfl:m=a+1:=oM;refine go 14 ?_
  refine a0L (a+1) (b) (fun i j=>I)
   (fun i j=>[(0,.slice (some ⟨g,0,none⟩) N cap),(1,.int .i64 ((a:Nat):Int)),(2,.int .i64 ((a+1:Nat):Int)),(3,.int .i64 ((b:Nat):Int)),(4,.func (.func f) #[] #[]),(10,.int .i64 ((i:Nat):Int)),(11,.int .i64 ((j:Nat):Int))])
   (fun i j=>[.blk g 390 (a1o (l)++rest.l).flatten])
   (fun i j=>a+1≤i∧i≤j∧j≤b∧(∀q,a+1≤q→q<i→a0r l q<a0r l a)∧(∀q,j≤q→q<b→a0r l a≤a0r l q))
   (fun i j=>j-i) ⟨oM,oM,oM,fun q _ _=>oM,fun q _ _=>oM⟩ rfl sb rfl ?_
  intro i j ⟨hi1,hij,hjb,hlo,hhi⟩;refine gC 8 (fun h33 p33=>?_) fun h33 p33=>?_
  ·have hh:(i+j) / 2<l.length:=oM;have ha0:a<l.length:=oM;refine go 8 ?_;refine o_v rfl (a1K he he rfl (m:=(i:Int)+(j:Int)) (wrap_u64 _ oM oM)) ?_;refine o_v rfl (a6w rfl (by decide)) ?_;refine o_v rfl (a1K he he rfl (m:=(((i+j) / 2:Nat):Int)) (by rw[IntKind.wrap_i64];omega)) ?_;refine go 5 ?_;refine dG 0 3 ?_;refine a0I 3 rfl rfl (by kernel_rfl) rfl (.refl _) rfl (a0m he rfl rfl rfl ((i+j) / 2) oM oM) ?_;refine a0I 4 rfl rfl (by kernel_rfl) rfl (.refl _) rfl (a1y m0 ((a0k _).append rest.uk) he rfl ((i+j) / 2) oM (a0C hh)) ?_;refine dG 5 2 ?_;refine a0I 7 rfl rfl (by kernel_rfl) rfl (.refl _) rfl (a0m he rfl rfl rfl (a) oM oM) ?_;refine a0I 8 rfl rfl (by kernel_rfl) rfl (.refl _) rfl (a1y m0 ((a0k _).append rest.uk) he rfl (a) oM (a0C ha0)) ?_;refine dH 9 0 ?_;refine cV (hp _ _) ?_;refine dG 10 1 ?_;refine gC 2 (fun h50 p50=>?_) fun h50 p50=>?_
   ·refine go 7 ?_;exact a0n ((i+j) / 2+1) (j) ⟨oM,oM,oM,fun q q1 q2=>by have:=m2.le (p:=q) (q:=(i+j) / 2) q1 oM oM;have:=b5e p50;omega,hhi⟩ oM rfl sb rfl
   ·refine go 6 ?_;exact a0n (i) ((i+j) / 2) ⟨oM,oM,oM,hlo,fun q q1 q2=>by have:=m2.le (p:=(i+j) / 2) (q:=q) oM q1 q2;have:=b5d p50;omega⟩ oM rfl sb rfl
  ·obtain rfl:i=j:=oM;refine go 13 ?_
   refine a0x (α:=Nat) 0 (fun t=>I)
    (fun t=>[(0,.slice (some ⟨g,0,none⟩) N cap),(1,.int .i64 ((a:Nat):Int)),(2,.int .i64 ((a+1:Nat):Int)),(3,.int .i64 ((b:Nat):Int)),(4,.func (.func f) #[] #[]),(10,.int .i64 ((i:Nat):Int)),(13,.int .i64 ((a+t:Nat):Int))])
    (fun t=>[.blk g 390 (a1o (bub l a t)++rest.l).flatten])
    (fun t=>a+t+1≤i)
    (fun t=>i-t) oM rfl sb rfl ?_
   intro t ht;refine go 5 ?_;refine o_v rfl (OV.cast (u:=.int .i64 ((i-1:Nat):Int)) (a1f rfl rfl ⟨oM,oM⟩) (congrArg (Value.int .i64) oM)) ?_;refine gC 3 (fun h58 p58=>?_) fun h58 p58=>?_
   ·have hbl:=a9l l a t;have hk1:a+t<(bub l a t).length:=oM;have hk2:a+t+1<(bub l a t).length:=oM;refine go 4 ?_;refine ds1 ?_;refine dG 0 4 ?_;refine a0I 4 rfl rfl (by kernel_rfl) rfl (.cons _ .slnil) rfl (OV.cast (u:=.int .i64 ((a+t+1:Nat):Int)) (a2h rfl rfl ⟨oM,oM⟩) (congrArg (Value.int .i64) oM)) ?_;refine dG 5 2 ?_;refine a0I 7 rfl rfl (by kernel_rfl) rfl (.cons _ .slnil) rfl (OV.cast (u:=.int .i64 ((a+t+1:Nat):Int)) (a2h rfl rfl ⟨oM,oM⟩) (congrArg (Value.int .i64) oM)) ?_;refine a0I 8 rfl rfl (by kernel_rfl) rfl (.cons _ .slnil) rfl (a0m he rfl rfl rfl (a+t+1) oM oM) ?_;refine dG 10 2 ?_;refine a0I 12 rfl rfl (by kernel_rfl) rfl (.cons _ .slnil) rfl (a0m he rfl rfl rfl (a+t) oM oM) ?_;refine dT2 9 13 ?_ ?_
    ·refine a0t rfl (a1y m0 ((a0k _).append rest.uk) he rfl (a+t+1) oM (a0C hk2)) ?_;refine dH 13 0 ?_;refine a0t rfl (a1y m0 ((a0k _).append rest.uk) he rfl (a+t) oM (a0C hk1)) ?_;refine go 1 ?_;refine a0I 14 rfl rfl (by kernel_rfl) rfl (.cons _ .slnil) rfl (a0m he rfl rfl rfl (a+t) oM oM) ?_;refine dH 15 0 ?_;refine a1O _ (a+t) (by first|exact (a0k _).append rest.uk|exact ((a0k _).append rest.uk).set rfl _) he rfl rfl rfl rfl rfl oM (by simp[a0s];omega) ?_;refine go 1 ?_;refine a0I 16 rfl rfl (by kernel_rfl) rfl (.cons _ .slnil) rfl (a0m he rfl rfl rfl (a+t+1) oM oM) ?_;refine dH 17 0 ?_;refine a1O _ (a+t+1) (by first|exact (a0k _).append rest.uk|exact ((a0k _).append rest.uk).set rfl _) he rfl rfl rfl rfl rfl oM (by simp[a0s];omega) ?_;refine go 6 ?_;refine o_v rfl (OV.cast (u:=.int .i64 ((a+(t+1):Nat):Int)) (a2h rfl rfl ⟨oM,oM⟩) (congrArg (Value.int .i64) oM)) ?_;refine go 3 ?_;exact a0w (t+1) oM oM rfl sb (by rw[bub];first|rw[←a3G hk1 hk2] | rw[←a2P hk1 hk2 oM])
    ·refine a0t rfl (a1y m0 ((a0k _).append rest.uk) he rfl (a+t) oM (a0C hk1)) ?_;refine dH 9 0 ?_;refine a0t rfl (a1y m0 ((a0k _).append rest.uk) he rfl (a+t+1) oM (a0C hk2)) ?_;refine go 1 ?_;refine a0I 14 rfl rfl (by kernel_rfl) rfl (.cons _ .slnil) rfl (a0m he rfl rfl rfl (a+t) oM oM) ?_;refine dH 15 0 ?_;refine a1O _ (a+t) (by first|exact (a0k _).append rest.uk|exact ((a0k _).append rest.uk).set rfl _) he rfl rfl rfl rfl rfl oM (by simp[a0s];omega) ?_;refine go 1 ?_;refine a0I 16 rfl rfl (by kernel_rfl) rfl (.cons _ .slnil) rfl (a0m he rfl rfl rfl (a+t+1) oM oM) ?_;refine dH 17 0 ?_;refine a1O _ (a+t+1) (by first|exact (a0k _).append rest.uk|exact ((a0k _).append rest.uk).set rfl _) he rfl rfl rfl rfl rfl oM (by simp[a0s];omega) ?_;refine go 6 ?_;refine o_v rfl (OV.cast (u:=.int .i64 ((a+(t+1):Nat):Int)) (a2h rfl rfl ⟨oM,oM⟩) (congrArg (Value.int .i64) oM)) ?_;refine go 3 ?_;exact a0w (t+1) oM oM rfl sb (by rw[bub];first|rw[←a3G hk1 hk2] | rw[←a2P hk1 hk2 oM])
   ·refine go 8 ?_;exact q_x ⟨rfl,_,rfl,(show i-1-a=t from oM)▸b7g m2 hi1 hjb hb hlo hhi⟩
 ·have hma:a+2≤m:=oM;refine go 7 ?_;refine o_v rfl (OV.cast (u:=.int .i64 ((b-m:Nat):Int)) (a1f rfl rfl ⟨oM,oM⟩) (congrArg (Value.int .i64) oM)) ?_;refine gC 3 (fun h80 p80=>?_) fun h80 p80=>?_
  ·obtain rfl:b=m+1:=oM;refine go 14 ?_
   refine a0L (a) (m) (fun i j=>I)
    (fun i j=>[(0,.slice (some ⟨g,0,none⟩) N cap),(1,.int .i64 ((a:Nat):Int)),(2,.int .i64 ((m:Nat):Int)),(3,.int .i64 ((m+1:Nat):Int)),(4,.func (.func f) #[] #[]),(14,.int .i64 ((i:Nat):Int)),(15,.int .i64 ((j:Nat):Int))])
    (fun i j=>[.blk g 390 (a1o (l)++rest.l).flatten])
    (fun i j=>a≤i∧i≤j∧j≤m∧(∀q,a≤q→q<i→a0r l q≤a0r l m)∧(∀q,j≤q→q<m→a0r l m<a0r l q))
    (fun i j=>j-i) ⟨oM,oM,oM,fun q _ _=>oM,fun q _ _=>oM⟩ rfl sb rfl ?_
   intro i j ⟨hi1,hij,hjb,hlo,hhi⟩;refine gC 8 (fun h85 p85=>?_) fun h85 p85=>?_
   ·have hh:(i+j) / 2<l.length:=oM;have hm0:m<l.length:=oM;refine go 8 ?_;refine o_v rfl (a1K he he rfl (m:=(i:Int)+(j:Int)) (wrap_u64 _ oM oM)) ?_;refine o_v rfl (a6w rfl (by decide)) ?_;refine o_v rfl (a1K he he rfl (m:=(((i+j) / 2:Nat):Int)) (by rw[IntKind.wrap_i64];omega)) ?_;refine go 5 ?_;refine dG 0 3 ?_;refine a0I 3 rfl rfl (by kernel_rfl) rfl (.refl _) rfl (a0m he rfl rfl rfl (m) oM oM) ?_;refine a0I 4 rfl rfl (by kernel_rfl) rfl (.refl _) rfl (a1y m0 ((a0k _).append rest.uk) he rfl (m) oM (a0C hm0)) ?_;refine dG 5 2 ?_;refine a0I 7 rfl rfl (by kernel_rfl) rfl (.refl _) rfl (a0m he rfl rfl rfl ((i+j) / 2) oM oM) ?_;refine a0I 8 rfl rfl (by kernel_rfl) rfl (.refl _) rfl (a1y m0 ((a0k _).append rest.uk) he rfl ((i+j) / 2) oM (a0C hh)) ?_;refine dH 9 0 ?_;refine cV (hp _ _) ?_;refine dG 10 2 ?_;refine gC 2 (fun h103 p103=>?_) fun h103 p103=>?_
    ·refine go 7 ?_;exact a0n ((i+j) / 2+1) (j) ⟨oM,oM,oM,fun q q1 q2=>by have:=m1.le (p:=q) (q:=(i+j) / 2) q1 oM oM;have:=b5d p103;omega,hhi⟩ oM rfl sb rfl
    ·refine go 6 ?_;exact a0n (i) ((i+j) / 2) ⟨oM,oM,oM,hlo,fun q q1 q2=>by have:=m1.le (p:=(i+j) / 2) (q:=q) oM q1 q2;have:=b5e p103;omega⟩ oM rfl sb rfl
   ·obtain rfl:i=j:=oM;refine go 13 ?_
    refine a0x (α:=Nat) 0 (fun t=>I)
     (fun t=>[(0,.slice (some ⟨g,0,none⟩) N cap),(1,.int .i64 ((a:Nat):Int)),(2,.int .i64 ((m:Nat):Int)),(3,.int .i64 ((m+1:Nat):Int)),(4,.func (.func f) #[] #[]),(14,.int .i64 ((i:Nat):Int)),(17,.int .i64 ((m-t:Nat):Int))])
     (fun t=>[.blk g 390 (a1o (bud l m t)++rest.l).flatten])
     (fun t=>t+i≤m)
     (fun t=>m-t) oM rfl ⟨rfl,rfl,rfl,rfl,rfl,rfl,congrArg (fun z:Int=>some (Value.int .i64 z)) oM,trivial⟩ rfl ?_
    intro t ht;refine gC 8 (fun h110 p110=>?_) fun h110 p110=>?_
    ·have hbl:=a9m l m t;have hk1:m-t<(bud l m t).length:=oM;have hk2:m-t-1<(bud l m t).length:=oM;refine go 4 ?_;refine ds1 ?_;refine dG 0 4 ?_;refine a0I 4 rfl rfl (by kernel_rfl) rfl (.cons _ .slnil) rfl (OV.cast (u:=.int .i64 ((m-t-1:Nat):Int)) (a1f rfl rfl ⟨oM,oM⟩) (congrArg (Value.int .i64) oM)) ?_;refine dG 5 2 ?_;refine a0I 7 rfl rfl (by kernel_rfl) rfl (.cons _ .slnil) rfl (OV.cast (u:=.int .i64 ((m-t-1:Nat):Int)) (a1f rfl rfl ⟨oM,oM⟩) (congrArg (Value.int .i64) oM)) ?_;refine a0I 8 rfl rfl (by kernel_rfl) rfl (.cons _ .slnil) rfl (a0m he rfl rfl rfl (m-t-1) oM oM) ?_;refine dG 10 2 ?_;refine a0I 12 rfl rfl (by kernel_rfl) rfl (.cons _ .slnil) rfl (a0m he rfl rfl rfl (m-t) oM oM) ?_;refine dT2 9 13 ?_ ?_
     ·refine a0t rfl (a1y m0 ((a0k _).append rest.uk) he rfl (m-t-1) oM (a0C hk2)) ?_;refine dH 13 0 ?_;refine a0t rfl (a1y m0 ((a0k _).append rest.uk) he rfl (m-t) oM (a0C hk1)) ?_;refine go 1 ?_;refine a0I 14 rfl rfl (by kernel_rfl) rfl (.cons _ .slnil) rfl (a0m he rfl rfl rfl (m-t) oM oM) ?_;refine dH 15 0 ?_;refine a1O _ (m-t) (by first|exact (a0k _).append rest.uk|exact ((a0k _).append rest.uk).set rfl _) he rfl rfl rfl rfl rfl oM (by simp[a0s];omega) ?_;refine go 1 ?_;refine a0I 16 rfl rfl (by kernel_rfl) rfl (.cons _ .slnil) rfl (a0m he rfl rfl rfl (m-t-1) oM oM) ?_;refine dH 17 0 ?_;refine a1O _ (m-t-1) (by first|exact (a0k _).append rest.uk|exact ((a0k _).append rest.uk).set rfl _) he rfl rfl rfl rfl rfl oM (by simp[a0s];omega) ?_;refine go 6 ?_;refine o_v rfl (OV.cast (u:=.int .i64 ((m-(t+1):Nat):Int)) (a1f rfl rfl ⟨oM,oM⟩) (congrArg (Value.int .i64) oM)) ?_;refine go 3 ?_;exact a0w (t+1) oM oM rfl sb (by rw[bud];first|rw[←a3G hk1 hk2] | rw[←a2P hk1 hk2 oM])
     ·refine a0t rfl (a1y m0 ((a0k _).append rest.uk) he rfl (m-t) oM (a0C hk1)) ?_;refine dH 9 0 ?_;refine a0t rfl (a1y m0 ((a0k _).append rest.uk) he rfl (m-t-1) oM (a0C hk2)) ?_;refine go 1 ?_;refine a0I 14 rfl rfl (by kernel_rfl) rfl (.cons _ .slnil) rfl (a0m he rfl rfl rfl (m-t) oM oM) ?_;refine dH 15 0 ?_;refine a1O _ (m-t) (by first|exact (a0k _).append rest.uk|exact ((a0k _).append rest.uk).set rfl _) he rfl rfl rfl rfl rfl oM (by simp[a0s];omega) ?_;refine go 1 ?_;refine a0I 16 rfl rfl (by kernel_rfl) rfl (.cons _ .slnil) rfl (a0m he rfl rfl rfl (m-t-1) oM oM) ?_;refine dH 17 0 ?_;refine a1O _ (m-t-1) (by first|exact (a0k _).append rest.uk|exact ((a0k _).append rest.uk).set rfl _) he rfl rfl rfl rfl rfl oM (by simp[a0s];omega) ?_;refine go 6 ?_;refine o_v rfl (OV.cast (u:=.int .i64 ((m-(t+1):Nat):Int)) (a1f rfl rfl ⟨oM,oM⟩) (congrArg (Value.int .i64) oM)) ?_;refine go 3 ?_;exact a0w (t+1) oM oM rfl sb (by rw[bud];first|rw[←a3G hk1 hk2] | rw[←a2P hk1 hk2 oM])
    ·refine go 8 ?_;exact q_x ⟨rfl,_,rfl,(show m-i=t from oM)▸b1q m1 hi1 hjb oM hlo hhi⟩
  ·have hmb2:m+2≤b:=oM;refine go 7 ?_;refine o_v rfl (a1K he he rfl (m:=(a:Int)+(b:Int)) (wrap_u64 _ oM oM)) ?_;refine o_v rfl (a6w rfl (by decide)) ?_;refine o_v rfl (a1K he he rfl (m:=(((a+b) / 2:Nat):Int)) (by rw[IntKind.wrap_i64];omega)) ?_;refine go 7 ?_;refine o_v rfl (OV.cast (u:=.int .i64 ((((a+b) / 2)+m:Nat):Int)) (a2h rfl rfl ⟨oM,oM⟩) (congrArg (Value.int .i64) oM)) ?_;refine go 10 ?_;refine a6z (Ix:=(fun S R=>I)) (Lx:=(fun S R=>[(0,.slice (some ⟨g,0,none⟩) N cap),(1,.int .i64 ((a:Nat):Int)),(2,.int .i64 ((m:Nat):Int)),(3,.int .i64 ((b:Nat):Int)),(4,.func (.func f) #[] #[]),(18,.int .i64 ((((a+b) / 2):Nat):Int)),(19,.int .i64 ((((a+b) / 2)+m:Nat):Int)),(20,.int .i64 ((S:Nat):Int)),(21,.int .i64 ((R:Nat):Int))])) (Hx:=(fun S R=>[.blk g 390 (a1o (l)++rest.l).flatten])) (p:=(fun S R=>(((a+b) / 2)<m∧S=((a+b) / 2)+m-b∧R=((a+b) / 2))∨(m≤((a+b) / 2)∧S=a∧R=m))) ?_ ?_
   ·refine gC 7 (fun h140 p140=>?_) fun h140 p140=>?_
    ·refine go 4 ?_;refine o_v rfl (OV.cast (u:=.int .i64 ((((a+b) / 2)+m-b:Nat):Int)) (a1f rfl rfl ⟨oM,oM⟩) (congrArg (Value.int .i64) oM)) ?_;refine go 8 ?_;exact a1U (((a+b) / 2)+m-b) (((a+b) / 2)) (.inl ⟨oM,rfl,rfl⟩) sb rfl rfl
    ·refine go 11 ?_;exact a1U (a) (m) (.inr ⟨oM,rfl,rfl⟩) sb rfl rfl
   ·intro S R hS;refine go 3 ?_;refine o_v rfl (OV.cast (u:=.int .i64 ((((a+b) / 2)+m-1:Nat):Int)) (a1f rfl rfl ⟨oM,oM⟩) (congrArg (Value.int .i64) oM)) ?_;refine go 5 ?_
    refine a0L (S) (R) (fun s r=>I)
     (fun s r=>[(0,.slice (some ⟨g,0,none⟩) N cap),(1,.int .i64 ((a:Nat):Int)),(2,.int .i64 ((m:Nat):Int)),(3,.int .i64 ((b:Nat):Int)),(4,.func (.func f) #[] #[]),(18,.int .i64 ((((a+b) / 2):Nat):Int)),(19,.int .i64 ((((a+b) / 2)+m:Nat):Int)),(20,.int .i64 ((s:Nat):Int)),(21,.int .i64 ((r:Nat):Int)),(22,.int .i64 ((((a+b) / 2)+m-1:Nat):Int))])
     (fun s r=>[.blk g 390 (a1o (l)++rest.l).flatten])
     (fun s r=>S≤s∧s≤r∧r≤R∧(∀q,S≤q→q<s→a0r l q≤a0r l (((a+b) / 2)+m-1-q))∧(∀q,r≤q→q<R→a0r l (((a+b) / 2)+m-1-q)<a0r l q))
     (fun s r=>r-s) ⟨oM,oM,oM,fun q _ _=>oM,fun q _ _=>oM⟩ rfl sb rfl ?_
    intro s r ⟨hs1,hsr,hrR,hlo,hhi⟩;refine gC 8 (fun h151 p151=>?_) fun h151 p151=>?_
    ·have hh:(s+r) / 2<l.length:=oM;have hh2:((a+b) / 2)+m-1-(s+r) / 2<l.length:=oM;refine go 8 ?_;refine o_v rfl (a1K he he rfl (m:=(s:Int)+(r:Int)) (wrap_u64 _ oM oM)) ?_;refine o_v rfl (a6w rfl (by decide)) ?_;refine o_v rfl (a1K he he rfl (m:=(((s+r) / 2:Nat):Int)) (by rw[IntKind.wrap_i64];omega)) ?_;refine go 5 ?_;refine dG 0 4 ?_;refine a0I 4 rfl rfl (by kernel_rfl) rfl (.refl _) rfl (OV.cast (u:=.int .i64 ((((a+b) / 2)+m-1-(s+r) / 2:Nat):Int)) (a1f rfl rfl ⟨oM,oM⟩) (congrArg (Value.int .i64) oM)) ?_;refine a0I 5 rfl rfl (by kernel_rfl) rfl (.refl _) rfl (a0m he rfl rfl rfl (((a+b) / 2)+m-1-(s+r) / 2) oM oM) ?_;refine a0I 6 rfl rfl (by kernel_rfl) rfl (.refl _) rfl (a1y m0 ((a0k _).append rest.uk) he rfl (((a+b) / 2)+m-1-(s+r) / 2) oM (a0C hh2)) ?_;refine dG 7 2 ?_;refine a0I 9 rfl rfl (by kernel_rfl) rfl (.refl _) rfl (a0m he rfl rfl rfl ((s+r) / 2) oM oM) ?_;refine a0I 10 rfl rfl (by kernel_rfl) rfl (.refl _) rfl (a1y m0 ((a0k _).append rest.uk) he rfl ((s+r) / 2) oM (a0C hh)) ?_;refine dH 11 0 ?_;refine cV (hp _ _) ?_;refine dG 12 2 ?_;refine gC 2 (fun h171 p171=>?_) fun h171 p171=>?_
     ·refine go 7 ?_;exact a0n ((s+r) / 2+1) (r) ⟨oM,oM,oM,c7V m1 m2 ham hmb rfl hS (h:=(s+r) / 2) (r:=r) oM oM hrR (b5d p171),hhi⟩ oM rfl sb rfl
     ·refine go 6 ?_;exact a0n (s) ((s+r) / 2) ⟨oM,oM,oM,hlo,c7U m1 m2 ham hmb rfl hS (h:=(s+r) / 2) (s:=s) hs1 oM oM (b5e p171)⟩ oM rfl sb rfl
    ·obtain rfl:s=r:=oM;obtain⟨hx,hy⟩:=c2Q m1 m2 ham hmb rfl hS hs1 hrR hlo hhi;have g0:a≤s:=oM;have g1:s≤m:=oM;have g2:m≤((a+b) / 2+m-s):=oM;have g3:((a+b) / 2+m-s)≤b:=oM;have hc:s+(((a+b) / 2+m-s)-m)=((a+b) / 2):=oM;refine go 9 ?_;refine o_v rfl (OV.cast (u:=.int .i64 ((((a+b) / 2+m-s):Nat):Int)) (a1f rfl rfl ⟨oM,oM⟩) (congrArg (Value.int .i64) oM)) ?_;refine go 4 ?_;refine a6M (α:=List Pkd) (Ix:=(fun k=>I)) (Lx:=(fun k=>[(0,.slice (some ⟨g,0,none⟩) N cap),(1,.int .i64 ((a:Nat):Int)),(2,.int .i64 ((m:Nat):Int)),(3,.int .i64 ((b:Nat):Int)),(4,.func (.func f) #[] #[]),(18,.int .i64 ((((a+b) / 2):Nat):Int)),(20,.int .i64 ((s:Nat):Int)),(24,.int .i64 ((((a+b) / 2+m-s):Nat):Int))])) (Hx:=(fun k=>[.blk g 390 (a1o (k)++rest.l).flatten])) (p:=(fun k=>Rot l k a s m ((a+b) / 2+m-s) b)) ?_ ?_
     ·refine gS 6 181 (fun h181 p181=>?_) fun h181 p181=>?_
      ·refine gC 6 (fun h185 p185=>?_) fun h185 p185=>?_
       ·refine go 7 ?_;refine a0K (d0G _ l N hN g s m ((a+b) / 2+m-s) f oM oM oM oM) rfl rfl fun v191 s191 q191=>?_;obtain⟨rfl,k,rfl,hkl,hk⟩:=q191;refine go 2 ?_;exact a2n k (Rot.of g1 g2 oM hkl hk hx) sb rfl rfl
       ·refine go 2 ?_;exact a2n l (Rot.id oM g1 g2) sb rfl rfl
      ·refine go 9 ?_;exact a2n l (Rot.id oM g1 g2) sb rfl rfl
     ·intro k hk;refine go 1 ?_;refine a6M (α:=List Pkd) (Ix:=(fun k1=>I)) (Lx:=(fun k1=>[(0,.slice (some ⟨g,0,none⟩) N cap),(1,.int .i64 ((a:Nat):Int)),(2,.int .i64 ((m:Nat):Int)),(3,.int .i64 ((b:Nat):Int)),(4,.func (.func f) #[] #[]),(18,.int .i64 ((((a+b) / 2):Nat):Int)),(20,.int .i64 ((s:Nat):Int)),(24,.int .i64 ((((a+b) / 2+m-s):Nat):Int))])) (Hx:=(fun k1=>[.blk g 390 (a1o (k1)++rest.l).flatten])) (p:=(fun k1=>Seg k k1 a ((a+b) / 2))) ?_ ?_
      ·refine gS 6 195 (fun h195 p195=>?_) fun h195 p195=>?_
       ·refine gC 6 (fun h199 p199=>?_) fun h199 p199=>?_
        ·refine go 7 ?_;refine a0K (ih k a s ((a+b) / 2) (hk.len.trans hN) oM oM oM (by have:=hk.len;omega) (hk.p1 m1 g1) ((hk.p2 m2 g1 g2 g3).sub (Nat.le_refl _) oM)) rfl rfl fun v205 s205 q205=>?_;obtain⟨rfl,k1,rfl,hk1⟩:=q205;refine go 2 ?_;exact a2n k1 hk1 sb rfl rfl
        ·refine go 2 ?_;exact a2n k (Seg.refl' (hk.left m1 m2 g1 g2 g3 hc oM g0)) sb rfl rfl
       ·refine go 9 ?_;exact a2n k (Seg.refl' (hk.left m1 m2 g1 g2 g3 hc oM g0)) sb rfl rfl
      ·intro k1 hk1;have hl1:k1.length=N:=hk1.len.trans (hk.len.trans hN);refine gS 6 209 (fun h209 p209=>?_) fun h209 p209=>?_
       ·refine gC 6 (fun h213 p213=>?_) fun h213 p213=>?_
        ·refine go 7 ?_;refine a0K (ih k1 ((a+b) / 2) ((a+b) / 2+m-s) b hl1 oM oM oM oM (hk1.keepD (Nat.le_refl _) ((hk.p3 m1 g0 g1 g2).sub oM (Nat.le_refl _))) (hk1.keepD oM (hk.p4 m2 g1 g2))) rfl rfl fun v219 s219 q219=>?_;obtain⟨rfl,k2,rfl,hk2⟩:=q219;refine go 2 ?_;exact q_x ⟨rfl,k2,rfl,hk.done m1 m2 g0 g1 g2 g3 hb hc hx hy hk1 hk2⟩
        ·refine go 2 ?_;exact q_x ⟨rfl,k1,rfl,hk.done m1 m2 g0 g1 g2 g3 hb hc hx hy hk1 (Seg.refl' (hk1.keepD (Nat.le_refl _) (hk.right m1 m2 g0 g1 g2 hc oM g3)))⟩
       ·refine go 9 ?_;exact q_x ⟨rfl,k1,rfl,hk.done m1 m2 g0 g1 g2 g3 hb hc hx hy hk1 (Seg.refl' (hk1.keepD (Nat.le_refl _) (hk.right m1 m2 g0 g1 g2 hc oM g3)))⟩
theorem b4I (I:IMap) {rest:Rst 15} {cap:Nat} (N g:Nat) (f:FuncId) (hp:∀x y:Pkd,FnV prog f #[.agg (Day.ch x).toArray,.agg (Day.ch y).toArray] I (.int .i64 ((Day.day x-Day.day y)))) (hN0:N≤1000000) (W:Nat):∀(l:List Pkd) (a m b:Nat),l.length=N→b-a≤W→a<m→m<b→b≤l.length→SrtD l a m→SrtD l m b→FnX prog 344 #[.slice (some ⟨g,0,none⟩) N cap,.int .i64 ((a:Nat):Int),.int .i64 ((m:Nat):Int),.int .i64 ((b:Nat):Int),.func (.func f) #[] #[]] I [.blk g 390 (a1o (l)++rest.l).flatten] (fun u r=>u = .tuple #[]∧∃m,r = .blk g 390 (a1o (m)++rest.l).flatten∧Seg l m a b):=by
 induction W using Nat.strongRecOn with
 |_ W ih=>exact fun l a m b hN hW ham hmb hb m1 m2=>b9A I N g f hp hN0 W (fun l' a' m' b' h1 h2 h3 h4 h5 h6 h7=>ih (b'-a') h2 l' a' m' b' h1 (Nat.le_refl _) h3 h4 h5 h6 h7) l a m b hN hW ham hmb hb m1 m2
theorem d1b (I:IMap) {rest:Rst 15} {cap:Nat} (N g:Nat) (f:FuncId) (hp:∀x y:Pkd,FnV prog f #[.agg (Day.ch x).toArray,.agg (Day.ch y).toArray] I (.int .i64 ((Day.day x-Day.day y)))) (hN0:N≤1000000) (l:List Pkd) (hN:l.length=N) :
    FnX prog 321 #[.slice (some ⟨g,0,none⟩) N cap,.int .i64 ((N:Nat):Int),.func (.func f) #[] #[]] I [.blk g 390 (a1o (l)++rest.l).flatten] (fun u r=>u = .tuple #[]∧∃m,r = .blk g 390 (a1o (m)++rest.l).flatten∧Stb l m∧SrtD m 0 N):=by
 refine enter func321 call321 rfl ntmps321 rfl fun w0=>?_;refine go 14 ?_
 refine a0L (0) (l) (fun a m=>I)
  (fun a m=>[(0,.slice (some ⟨g,0,none⟩) N cap),(1,.int .i64 ((N:Nat):Int)),(2,.func (.func f) #[] #[]),(6,.int .i64 20),(7,.int .i64 ((a:Nat):Int)),(8,.int .i64 ((a+20:Nat):Int))])
  (fun a m=>[.blk g 390 (a1o (m)++rest.l).flatten])
  (fun a m=>a≤N∧Stb l m∧Pre m 20 a)
  (fun a m=>N-a) ⟨Nat.zero_le _,Stb.refl l,.zero⟩ rfl sb rfl ?_
 intro a m ⟨ha,hs,hP⟩;have hmN:m.length=N:=hs.1.symm.trans hN;refine gC 8 (fun h13 p13=>?_) fun h13 p13=>?_
 ·refine go 10 ?_;refine a0K (b6X _ m N hmN g a (a+20) f hp oM oM oM) rfl rfl fun v18 s18 q18=>?_;obtain⟨rfl,k18,rfl,h18⟩:=q18;refine go 11 ?_;refine o_v rfl (OV.cast (u:=.int .i64 ((a+20+20:Nat):Int)) (a2h rfl rfl ⟨oM,oM⟩) (congrArg (Value.int .i64) oM)) ?_;refine go 4 ?_;exact a0n (a+20) (k18) ⟨oM,hs.trans h18.stb,hP.put h18⟩ oM rfl sb rfl
 ·refine go 12 ?_;refine a0K (b6X _ m N hmN g a N f hp ha oM oM) rfl rfl fun v27 s27 q27=>?_;obtain⟨rfl,m3,rfl,h27⟩:=q27;refine go 3 ?_
  refine a0L (20) (m3) (fun q m=>I)
   (fun q m=>[(0,.slice (some ⟨g,0,none⟩) N cap),(1,.int .i64 ((N:Nat):Int)),(2,.func (.func f) #[] #[]),(6,.int .i64 ((q:Nat):Int))])
   (fun q m=>[.blk g 390 (a1o (m)++rest.l).flatten])
   (fun q m=>1≤q∧Stb l m∧Blk m q N 0)
   (fun q m=>N-q) ⟨oM,hs.trans h27.stb,hP.last h27 ha oM⟩ rfl sb rfl ?_
  intro q m ⟨hq,hs,hB⟩;have hmN:m.length=N:=hs.1.symm.trans hN;refine gC 8 (fun h30 p30=>?_) fun h30 p30=>?_
  ·refine go 6 ?_;refine o_v rfl (OV.cast (u:=.int .i64 ((2 * q:Nat):Int)) (b4M rfl rfl ⟨oM,oM⟩) (congrArg (Value.int .i64) oM)) ?_;refine go 6 ?_
   refine a0L (0) (m) (fun a k=>I)
    (fun a k=>[(0,.slice (some ⟨g,0,none⟩) N cap),(1,.int .i64 ((N:Nat):Int)),(2,.func (.func f) #[] #[]),(6,.int .i64 ((q:Nat):Int)),(7,.int .i64 ((a:Nat):Int)),(8,.int .i64 ((a+2 * q:Nat):Int))])
    (fun a k=>[.blk g 390 (a1o (k)++rest.l).flatten])
    (fun a k=>a≤N∧Stb l k∧Pre k (2 * q) a∧Blk k q N a)
    (fun a k=>N-a) ⟨Nat.zero_le _,hs,.zero,hB⟩ rfl ⟨rfl,rfl,rfl,rfl,rfl,congrArg (fun z:Int=>some (Value.int .i64 z)) oM,trivial⟩ rfl ?_
   intro a k ⟨ha,hkS,hkP,hkB⟩;have hkN:k.length=N:=hkS.1.symm.trans hN;refine gC 8 (fun h35 p35=>?_) fun h35 p35=>?_
   ·obtain⟨t1,t2,t3⟩:=hkB.two oM hq;refine go 9 ?_;refine o_v rfl (OV.cast (u:=.int .i64 ((a+q:Nat):Int)) (a2h rfl rfl ⟨oM,oM⟩) (congrArg (Value.int .i64) oM)) ?_;refine go 3 ?_;refine a0K (b4I _ N g f hp hN0 _ k a (a+q) (a+2 * q) hkN (Nat.le_refl _) oM oM oM t1 t2) rfl rfl fun v43 s43 q43=>?_;obtain⟨rfl,k43,rfl,h43⟩:=q43;refine go 11 ?_;refine o_v rfl (OV.cast (u:=.int .i64 ((2 * q:Nat):Int)) (b4M rfl rfl ⟨oM,oM⟩) (congrArg (Value.int .i64) oM)) ?_;refine o_v rfl (OV.cast (u:=.int .i64 ((a+2 * q+2 * q:Nat):Int)) (a2h rfl rfl ⟨oM,oM⟩) (congrArg (Value.int .i64) oM)) ?_;refine go 4 ?_;exact a0n (a+2 * q) (k43) ⟨oM,hkS.trans h43.stb,hkP.put h43,t3.same fun z z1 z2=>h43.out z (.inr oM)⟩ oM rfl sb rfl
   ·refine go 6 ?_;refine a6M (α:=List Pkd) (Ix:=(fun k=>I)) (Lx:=(fun k=>[(0,.slice (some ⟨g,0,none⟩) N cap),(1,.int .i64 ((N:Nat):Int)),(2,.func (.func f) #[] #[]),(6,.int .i64 ((q:Nat):Int))])) (Hx:=(fun k=>[.blk g 390 (a1o (k)++rest.l).flatten])) (p:=(fun k=>Stb l k∧Blk k (2 * q) N 0)) ?_ ?_
    ·refine go 4 ?_;refine o_v rfl (OV.cast (u:=.int .i64 ((a+q:Nat):Int)) (a2h rfl rfl ⟨oM,oM⟩) (congrArg (Value.int .i64) oM)) ?_;refine gC 10 (fun h54 p54=>?_) fun h54 p54=>?_
     ·obtain⟨t1,t2⟩:=hkB.one oM;refine go 7 ?_;refine a0K (b4I _ N g f hp hN0 _ k a (a+q) N hkN (Nat.le_refl _) oM oM oM t1 (t2 oM)) rfl rfl fun v60 s60 q60=>?_;obtain⟨rfl,k60,rfl,h60⟩:=q60;refine go 2 ?_;exact a2n k60 ⟨hkS.trans h60.stb,hkP.last h60 ha oM⟩ sb rfl rfl
     ·refine go 2 ?_;exact a2n k ⟨hkS,hkP.last (Seg.refl' (hkB.all oM)) ha oM⟩ sb rfl rfl
    ·intro k ⟨hkS,hkB⟩;refine go 2 ?_;refine o_v rfl (OV.cast (u:=.int .i64 ((2 * q:Nat):Int)) (b4M rfl rfl ⟨oM,oM⟩) (congrArg (Value.int .i64) oM)) ?_;refine go 4 ?_;exact a0n (2 * q) (k) ⟨oM,hkS,hkB⟩ oM rfl sb rfl
  ·refine go 5 ?_;exact q_x ⟨rfl,m,rfl,hs,hB.all oM⟩
theorem b6l (I:IMap) {rest:Rst 15} {cap:Nat} (N g:Nat) (f:FuncId) (hp:∀x y:Pkd,FnV prog f #[.agg (Day.ch x).toArray,.agg (Day.ch y).toArray] I (.int .i64 ((Day.day x-Day.day y)))) (hN0:N≤1000000) (l:List Pkd) (hN:l.length=N) :
    FnX prog 279 #[.slice (some ⟨g,0,none⟩) N cap,.func (.func f) #[] #[]] I [.blk g 390 (a1o (l)++rest.l).flatten] (fun u r=>u = .tuple #[]∧∃m,r = .blk g 390 (a1o (m)++rest.l).flatten∧Stb l m∧SrtD m 0 N):=by
 refine enter func279 call279 rfl ntmps279 rfl fun w0=>?_;refine go 6 ?_;refine a0K (d1b _ N g f hp hN0 l hN) rfl rfl fun v8 s8 q8=>?_;obtain⟨rfl,m8,rfl,h8⟩:=q8;refine go 2 ?_;exact q_x ⟨rfl,m8,rfl,h8⟩
theorem b8J (I:IMap) (f:FuncId) :
    FnV prog 343 #[.slice none 0 0,.int .i64 0,.int .i64 0,.func (.func f) #[] #[]] I (.tuple #[]):=by
 refine enter func343 call343 rfl ntmps343 rfl fun w0=>?_;refine go 3 ?_;refine o_v rfl (OV.cast (u:=.int .i64 1) (a2h rfl rfl ⟨oM,oM⟩) rfl) ?_;refine go 4 ?_
 refine a0x (α:=Nat) 0 (fun i=>I)
  (fun i=>[(0,.slice none 0 0),(1,.int .i64 0),(2,.int .i64 0),(3,.func (.func f) #[] #[]),(8,.int .i64 1)])
  (fun i=>[])
  (fun i=>True)
  (fun i=>0) trivial rfl sb rfl ?_
 intro i _;refine gC 8 (fun h14 p14=>?_) fun h14 p14=>?_
 ·exact absurd p14 (by decide)
 ·refine go 5 ?_;exact q_v rfl
theorem c2T (I:IMap) (f:FuncId) :
    FnV prog 321 #[.slice none 0 0,.int .i64 0,.func (.func f) #[] #[]] I (.tuple #[]):=by
 refine enter func321 call321 rfl ntmps321 rfl fun w0=>?_;refine go 14 ?_
 refine a0x (α:=Nat) 0 (fun i=>I)
  (fun i=>[(0,.slice none 0 0),(1,.int .i64 0),(2,.func (.func f) #[] #[]),(6,.int .i64 20),(7,.int .i64 0),(8,.int .i64 20)])
  (fun i=>[])
  (fun i=>True)
  (fun i=>0) trivial rfl sb rfl ?_
 intro i _;refine gC 8 (fun h13 p13=>?_) fun h13 p13=>?_
 ·exact absurd p13 (by decide)
 ·refine go 12 ?_;refine cV (b8J _ f) ?_;refine go 3 ?_
  refine a0x (α:=Nat) 0 (fun i=>I)
   (fun i=>[(0,.slice none 0 0),(1,.int .i64 0),(2,.func (.func f) #[] #[]),(6,.int .i64 20)])
   (fun i=>[])
   (fun i=>True)
   (fun i=>0) trivial rfl sb rfl ?_
  intro i _;refine gC 8 (fun h30 p30=>?_) fun h30 p30=>?_
  ·exact absurd p30 (by decide)
  ·refine go 5 ?_;exact q_v rfl
theorem d0U (I:IMap) (f:FuncId) :
    FnV prog 279 #[.slice none 0 0,.func (.func f) #[] #[]] I (.tuple #[]):=by
 refine enter func279 call279 rfl ntmps279 rfl fun w0=>?_;refine go 6 ?_;refine cV (c2T _ f) ?_;refine go 2 ?_;exact q_v rfl
theorem d3Z (I:IMap) (v:Value) (l:List Pkd) (hN0:l.length≤1000000) (f:FuncId) (hp:∀x y:Pkd,FnV prog f #[.agg (Day.ch x).toArray,.agg (Day.ch y).toArray] I (.int .i64 (Day.day x-Day.day y))) :
  FnX prog 279 #[v,.func (.func f) #[] #[]] I [.row v 390 15 l.length (a1o l).flatten] (fun u r=>u = .tuple #[]∧r = .row v 390 15 l.length (a1o (a1Z l)).flatten):=
 FnX.of_rowV (args:=fun v=>[v,.func (.func f) #[] #[]]) (a0k l) (a0s l)
  (fun h0 hv=>by
   obtain rfl:=List.eq_nil_of_length_eq_zero h0;subst hv
   exact FnX.of_V (d0U I f))
  (fun g cap rest hv hR hc hl=>by
   subst hv;refine FnX.back (yss:=a1o (a1Z l)) (a0k _) hR (by rw[a0s,a4p]) hc hl ?_;refine FnH.mono (b6l I (rest:=⟨rest,hR⟩) (cap:=cap) l.length g f hp hN0 l rfl) fun u I' H' hI h=>?_
   obtain⟨h1,r',h2,h3,m,h4,h5,h6⟩:=h;have hml:m.length=l.length:=h5.1.symm;obtain rfl:=b7Q h5 (SrtD.pw (by rw[hml];exact h6))
   exact⟨h1,r',h2,⟨h3,rfl⟩,h4⟩)
theorem d0j (I:IMap) (x y:Pkd) :
    FnV prog 280 #[.agg (Day.ch x).toArray,.agg (Day.ch y).toArray] I (.int .i64 (Day.day x-Day.day y)):=by
 refine enter func280 call280 rfl ntmps280 rfl fun w0=>?_
 show SX _ _ _ (a9e [.agg x.cells.toArray,.agg y.cells.toArray] 0) _ _
 refine go 4 fun g2=>?_
 refine go 2 fun g3=>?_
 refine go 11 ?_;refine o_v rfl (a1f rfl rfl ⟨by have:=x.lo;have:=x.hi;have:=y.lo;have:=y.hi;omega,by have:=x.lo;have:=x.hi;have:=y.lo;have:=y.hi;omega⟩) ?_;refine go 5 ?_;exact q_v rfl
theorem b8F (I:IMap) (vc:Value) (c:List Kind) (hvc:RdS I vc c) (hsc:SmC c) (g1:Nat) (c1:ICells I g1 0 [vc]) (g2:Nat) (v:Value) (st:List Part) (hv:RdS I v st) (hsf:SmF st) (e:Evt) (hse:SmE e) :
    FnG prog 281 #[.agg e.cells.toArray,.pointer (some ⟨g1,0,none⟩),.pointer (some ⟨g2,0,none⟩)] I (.blk g2 62 [v]) (fun u J r=>u = .int .i64 (a0g c st e).2∧∃w,r = .blk g2 62 [w]∧RdS J w (a0g c st e).1):=by
 refine enter func281 call281 rfl ntmps281 rfl fun w0=>?_;refine go 4 fun g3=>?_
 refine go 9 ?_;refine a0p (b5s _ vc c hvc hsc v st hv hsf e hse) rfl rfl fun v9 I9 j9 q9=>?_;obtain⟨w9,rfl,hw9⟩:=q9;refine go 4 ?_;refine a0b ?_;refine a0Q _ he rfl rfl rfl rfl rfl (by simp[hw9.one]) ?_;refine go 11 ?_;refine a0b ?_;refine a0a ?_;exact q_g ⟨rfl,w9,rfl,hw9⟩
theorem c4U (I:IMap) (vc:Value) (c:List Kind) (hvc:RdS I vc c) (hsc:SmC c) (v:Value) (l:List Rep) (hv:RdS I v l) (hl:l.length≤1000000) (hsl:∀r∈l,∀e∈r.options,SmE e) (hgd:∀r∈l,a0l r=true) (w:Value) (ch:List Int) (hw:RdS I w ch) (hlc:ch.length=l.length) (day:Int) :
    FnI prog 217 #[.agg #[vc],v,w,.int .i64 day] I (fun u J=>u = .tuple #[.int .i64 (a7O c l ch day).1,.int .i64 (a7O c l ch day).2]):=by
 obtain⟨A,c0,rfl,hA,hc,hm⟩:=hv;obtain⟨B,c1,rfl,hB,hc1,hm1⟩:=hw;refine enter func217 call217 rfl ntmps217 rfl fun w0=>?_;refine go 4 fun g4=>?_
 refine go 6 ?_;refine a0G 390 15 ?_;refine go 12 ?_
 refine a4G ((0:Nat)) (_) ([]) ([]) (fun i v xs out=>I)
  (fun i v xs out=>[(4,.pointer (some ⟨g4,0,none⟩)),(2,.slice B ch.length c1),(3,.int .i64 day),(10,v),(19,.slice A l.length c0),(20,.int .i64 ((l.length:Nat):Int)),(21,.int .i64 ((i:Nat):Int))])
  (fun i v xs out=>[.row v 390 15 out.length xs,.blk g4 24 [vc]])
  (fun i v xs out=>i≤l.length∧a4Z day l ch i=out∧Flat I xs out)
  (fun i v xs out=>l.length-i) ⟨Nat.zero_le _,rfl,.nil⟩ rfl sb rfl ?_
 intro i v xs out ⟨hi,hw,hF⟩;have hol:out.length≤i:=by rw[←hw];exact c5P _ _ _ _
 refine gC 6 (fun h22 p22=>?_) fun h22 p22=>?_
 ·have hlt:i<l.length:=oM;have hlt2:i<ch.length:=oM;refine go 7 ?_;obtain⟨b24,o24,w24,e24,c24,r24⟩:=RdA.at_ hA (i:=i) hlt;obtain⟨q24,rfl,S24,d24,rfl,hS24,hd24,hm24⟩:=r24;refine go 4 fun g12=>?_
  refine go 9 ?_;obtain⟨b28,o28,w28,e28,c28,r28⟩:=RdA.at_ hB (i:=i) hlt2;obtain rfl:=r28;refine o_v rfl (a0m he rfl rfl e28 (i) oM hlt2) ?_;refine gS 9 32 (fun h32 p32=>?_) fun h32 p32=>?_
  ·refine gS 7 39 (fun h39 p39=>?_) fun h39 p39=>?_
   ·have hk:ch[i].toNat<l[i].options.length:=oM;have hday:=b9J (a5c (hgd _ (List.getElem_mem hlt)) _ (List.getElem_mem hk));refine go 3 ?_;obtain⟨b43,o43,w43,e43,c43,r43⟩:=RdA.at_ hS24 (i:=ch[i].toNat) hk;obtain rfl:=r43;refine a0A (a0q rfl rfl h39 (a0t rfl (a0m he rfl rfl e43 (ch[i].toNat) oM hk) ?_));refine gC 7 (fun h48 p48=>?_) fun h48 p48=>?_
    ·refine go 5 ?_;obtain⟨b53,o53,w53,e53,c53,r53⟩:=RdA.at_ hS24 (i:=ch[i].toNat) hk;obtain rfl:=r53;refine o_v rfl (a0m he rfl rfl e53 (ch[i].toNat) oM hk) ?_;refine go 5 fun v57=>?_
     refine go 1 ?_;refine a0d ?_;refine a0z he he rfl rfl rfl rfl rfl oM oM rfl fun v58=>?_;refine go 9 ?_;refine a0b ?_;refine a0a ?_;refine a0b ?_;refine a0a ?_;exact a1V (i+1) (_) (_) (out++[⟨l[i].options[ch[i].toNat],i,hday.1,hday.2⟩]) ⟨oM,d3l hlt hlt2 hw p32 hk p48 hday,hF.append (.one rfl)⟩ oM rfl sb (by first|rfl|(simp only[List.length_append,List.length_singleton];rfl)|simp only[List.length_append,List.length_singleton])
    ·refine go 8 ?_;refine a0a ?_;exact a1V (i+1) (_) (_) (out) ⟨oM,d0k hlt hlt2 hw hk p48,hF⟩ oM rfl sb (by first|rfl|(simp only[List.length_append,List.length_singleton];rfl)|simp only[List.length_append,List.length_singleton])
   ·refine go 20 ?_;refine a0a ?_;exact a1V (i+1) (_) (_) (out) ⟨oM,d3j hlt hlt2 hw p39,hF⟩ oM rfl sb (by first|rfl|(simp only[List.length_append,List.length_singleton];rfl)|simp only[List.length_append,List.length_singleton])
  ·refine go 27 ?_;refine a0a ?_;exact a1V (i+1) (_) (_) (out) ⟨oM,d3k hlt hlt2 hw p32,hF⟩ oM rfl sb (by first|rfl|(simp only[List.length_append,List.length_singleton];rfl)|simp only[List.length_append,List.length_singleton])
 ·have e:i=l.length:=oM;subst e;refine go 9 ?_;obtain⟨xss,rfl,hx⟩:=FlatC.of hF;obtain rfl:=c4z hx;refine a0K (d3Z _ v out oM 280 (fun x y=>d0j _ x y)) rfl rfl fun v61 s61 q61=>?_;obtain⟨rfl,rfl⟩:=q61;have hso:=a4p out;refine a0i (l:=a1Z out) rfl (by rw[a4p]) ((b8A _).flat) fun I61 j61 R61=>?_;have hvc:=hvc.le j61;refine go 6 fun g14=>?_
  refine go 4 ?_;obtain⟨A6,c6,rfl,hA6,_,_⟩:=R61;refine a0b ?_;refine a0B fun Ig4 jg4 cg4=>?_;have hvc:=hvc.le jg4;have hA6:=hA6.le jg4;refine go 13 ?_
  refine a4G (0) ([]) (.slice none 0 0) (Ig4) (fun i st v14 J=>J)
   (fun i st v14 J=>[(15,.func (.func 281) #[] #[.pointer (some ⟨g4,0,none⟩),.pointer (some ⟨g14,0,none⟩)]),(63,.slice A6 (a1Z out).length c6),(64,.int .i64 (((a1Z out).length:Nat):Int)),(65,.int .i64 ((i:Nat):Int))])
   (fun i st v14 J=>[.blk g14 62 [v14]])
   (fun i st v14 J=>i≤(a1Z out).length∧ILe Ig4 J∧RdS J v14 st∧SmF st∧a5W c [] (a1Z out)=a5W c st ((a1Z out).drop i))
   (fun i st v14 J=>(a1Z out).length-i) ⟨Nat.zero_le _,ILe.refl _,RdS.nil',SmF.nil,rfl⟩ rfl sb rfl ?_
  intro i st v14 J ⟨hi,hJ,hv14,hsf,hgo⟩;have hvc:=hvc.le hJ;have hA6:=hA6.le hJ;have cg4:=cg4.le hJ;refine gC 6 (fun h66 p66=>?_) fun h66 p66=>?_
  ·have hlt:i<(a1Z out).length:=oM
   have hse:SmE (a1Z out)[i].e:=by
     obtain⟨r,hr,he⟩:=c5Q (day:=day) (l:=l) (ch:=ch) (n:=l.length) (p:=(a1Z out)[i]) (by rw[hw];exact a7u.1 (List.getElem_mem hlt));exact hsl r hr _ he
   refine go 6 ?_;obtain⟨b67,o67,w67,e67,c67,r67⟩:=RdA.at_ hA6 (i:=i) hlt;obtain rfl:=r67;refine go 4 fun g17=>?_
   refine go 8 ?_;refine o_v rfl (a1L ((a1Z out)[i].e.cells) m0 he rfl rfl rfl) ?_;refine go 1 ?_;refine a0b ?_;refine a1x (b8F _ vc c hvc hsc g4 cg4 g14 v14 st hv14 hsf (a1Z out)[i].e hse) rfl rfl fun v72 I72 s72 j72 q72=>?_;obtain⟨rfl,w72,rfl,hw72⟩:=q72;refine gC 9 (fun h74 p74=>?_) fun h74 p74=>?_
   ·have hok:¬(a0g c st (a1Z out)[i].e).2=0:=by simpa using p74
    refine go 16 ?_;exact q_i (by simp only[a7O,hw,hgo,a9D hlt,if_neg hok])
   ·have hok:(a0g c st (a1Z out)[i].e).2=0:=by simpa using p74
    refine go 8 ?_;refine a0b ?_;refine a0a ?_;exact a1V (i+1) (_) (_) (I72) ⟨oM,hJ.trans j72,hw72,a9c hsf hse,by rw[hgo,a9D hlt,if_pos hok]⟩ oM rfl sb rfl
  ·refine go 13 ?_;exact q_i (by simp only[a7O,hw,hgo,List.drop_eq_nil_of_le (show (a1Z out).length≤i from oM)];rfl)
theorem c9r (I:IMap) (vc:Value) (c:List Kind) (hvc:RdS I vc c) (hsc:SmC c) (v:Value) (l:List Rep) (hv:RdS I v l) (hl:l.length≤1000000) (hsl:∀r∈l,∀e∈r.options,SmE e) (w:Value) (ch:List Int) (hw:RdS I w ch) :
    FnI prog 194 #[.agg #[vc],v,w] I (fun u J=>u = .bool (a2Q c l ch)):=by
 have hv0:=hv;have hw0:=hw;obtain⟨A,c0,rfl,_,_,_⟩:=hv0;obtain⟨B,c1,rfl,_,_,_⟩:=hw0;refine enter func194 call194 rfl ntmps194 rfl fun w0=>?_;refine go 4 fun g3=>?_
 refine go 10 ?_;refine cV (c9s _ vc c hvc hsc _ l hv hsl _ ch hw (-1)) ?_;refine gC 3 (fun h15 p15=>?_) fun h15 p15=>?_
 ·refine go 8 ?_;exact q_i (by rw[a2Q,if_pos (by simpa using h15)])
 ·obtain⟨hlc,hgd⟩:=c1h (c:=c) (l:=l) (ch:=ch) (n:=(-1)) (by simpa using h15);refine go 6 fun g7=>?_
  refine go 10 ?_;refine a0p (d2F _ A B _ c0 _ c1) rfl rfl fun v18 I18 j18 q18=>?_;have hvc:=hvc.le j18;have hv:=hv.le j18;have hw:=hw.le j18;obtain⟨g2,g5,rfl,c2,c3⟩:=q18;refine go 3 ?_;refine a9o (σ:=Int) (ps:=[19]) 40001 (fun m=>[.blk g7 3 [ci m]]) (fun pre I m=>m=a9L pre) (fun pre I m cd=>False) rfl call310 (d2m _ _ l hv _ ch hw hlc g2 g5 c2 c3) (fun I vs x h=>by rw[h];rfl) rfl (fun pre I I' s hI h=>h) (fun _ _ _ _ _ _ h=>h) (rfl) rfl ?_ ?_ ?_
  ·rintro r E1 pre x vs I1 m hI1 rfl rfl hpf;refine c3a ?_;refine go 3 ?_;refine b0h ?_;refine go 4 ?_;refine o_v rfl (a8u rfl rfl) ?_;refine go 1 ?_;refine a0d ?_;refine go 3 ?_;refine a0d ?_;refine a0d ?_;exact b4s (_) (hI1) ((by rw[b8Q])) rfl
  ·rintro D pre I1 m hI1 hfull rfl;refine b6q ?_;refine go 9 ?_;refine a0p (c4U _ vc c (hvc.le hI1) hsc _ l (hv.le hI1) hl hsl hgd _ ch (hw.le hI1) hlc (a9L pre)) rfl rfl fun v28 I28 j28 q28=>?_;obtain rfl:=q28;refine go 15 ?_;refine b0g ?_;refine go 1 ?_;exact q_i (by rw[a2Q,if_neg (by simp[show a6Y c l ch (-1)=true by simpa using h15]),hfull])
  ·rintro D pre I1 m cd hI1 hpart h;exact h.elim
end Go.Proofs.YtgmkjpafapgccaaGreat
namespace Go.Proofs.YtgmkjpafapgccaaGreat
open Go Go.Sx Tryz
set_option linter.all false
set_option maxRecDepth 20000
set_option maxHeartbeats 4000000
theorem b9q (I:IMap) (r:Rep) (S:Option Addr) (d:Nat) (hr:RdS I (.slice S r.options.length d) r.options) (hs:∀e∈r.options,SmE e) :
    FnV prog 184 #[.agg (r.cells (.slice S r.options.length d)).toArray] I (.bool (a0l r)):=by
 have hSA:RdA I S r.options:=(by obtain⟨_,_,e,h,_⟩:=hr;cases e;exact h);have hl4:d≤9223372036854775807:=(by obtain⟨_,_,e,h,h1,h2⟩:=hr;cases e;exact h2);have hl5:=hr.lenLe;refine enter func184 call184 rfl ntmps184 rfl fun w0=>?_;refine go 4 fun g1=>?_
 refine go 5 ?_;refine a1N (I':=I) (L':=[(1,.pointer (some ⟨g1,0,none⟩)),(14,.bool (decide (((r.options.length:Nat):Int)<1)||decide ((4:Int)<(r.options.length:Nat))))]) (H':=[.blk g1 109 (r.cells (.slice S r.options.length d))]) ?_ ?_
 ·refine gS 6 9 (fun h9 p9=>?_) fun h9 p9=>?_
  ·refine go 7 ?_;exact a0o ⟨rfl,(bB (by simp only[h9,bS])),trivial⟩ rfl rfl
  ·refine go 7 ?_;exact a0o ⟨rfl,(bB (by simp only[h9,bS])),trivial⟩ rfl rfl
 ·refine gC 0 (fun h14 p14=>?_) fun h14 p14=>?_
  ·refine go 8 ?_;exact q_v (congrArg Value.bool (by simp only[a0l,show decide (((r.options.length:Nat):Int)=0)=decide (((r.options.length:Nat):Int)<1) from by rw[decide_eq_decide];omega,h14];rfl))
  ·refine go 9 ?_
   refine a0x (α:=Nat) 0 (fun i=>I)
    (fun i=>[(1,.pointer (some ⟨g1,0,none⟩)),(3,.int .i64 ((i:Nat):Int))])
    (fun i=>[.blk g1 109 (r.cells (.slice S r.options.length d))])
    (fun i=>i≤r.options.length∧a3A a4m r.options i=true)
    (fun i=>r.options.length-i) ⟨Nat.zero_le _,rfl⟩ rfl sb rfl ?_
   intro i ⟨hi,hn⟩;refine gC 10 (fun h19 p19=>?_) fun h19 p19=>?_
   ·have hlt:i<r.options.length:=oM;refine go 10 ?_;obtain⟨b25,o25,w25,e25,c25,r25⟩:=RdA.at_ hSA (i:=i) hlt;obtain rfl:=r25;refine go 3 ?_;refine cV (b9p _ r.options[i] (hs _ (List.getElem_mem hlt))) ?_;refine gC 3 (fun h28 p28=>?_) fun h28 p28=>?_
    ·refine go 13 ?_;exact q_v (congrArg Value.bool (by simp only[a0l,show decide (((r.options.length:Nat):Int)=0)=decide (((r.options.length:Nat):Int)<1) from by rw[decide_eq_decide];omega,h14,a1b hlt (show a4m (r.options.take i) r.options[i]=false by simp only[a4m,show a1t r.options[i]=false by simpa using h28,bS]),bS]))
    ·refine go 8 ?_
     refine a0x (α:=Nat) 0 (fun m=>I)
      (fun m=>[(1,.pointer (some ⟨g1,0,none⟩)),(3,.int .i64 ((i:Nat):Int)),(4,.int .i64 ((m:Nat):Int))])
      (fun m=>[.blk g1 109 (r.cells (.slice S r.options.length d))])
      (fun m=>m≤i∧∀j x,j<m→r.options[j]? = some x→decide (x=r.options[i])=false)
      (fun m=>i-m) ⟨Nat.zero_le _,fun j x hj=>absurd hj (Nat.not_lt_zero j)⟩ rfl sb rfl ?_
     intro m ⟨hmm,hq⟩;refine gC 8 (fun h31 p31=>?_) fun h31 p31=>?_
     ·have hlm:m<r.options.length:=oM;refine go 6 ?_;refine dG 0 3 ?_;obtain⟨b37,o37,w37,e37,c37,r37⟩:=RdA.at_ hSA (i:=m) hlm;obtain rfl:=r37;refine a0I 3 rfl rfl (by kernel_rfl) rfl (.refl _) rfl (a0m he rfl rfl e37 (m) oM hlm) ?_;refine dG 4 4 ?_;obtain⟨b42,o42,w42,e42,c42,r42⟩:=RdA.at_ hSA (i:=i) hlt;obtain rfl:=r42;refine dG 8 2 ?_;refine a0I 10 rfl rfl (by kernel_rfl) rfl (.refl _) rfl (b0r T.eqg_130 (b2b r.options[m] r.options[i]) rfl rfl) ?_;refine gC 2 (fun h44 p44=>?_) fun h44 p44=>?_
      ·refine go 16 ?_;exact q_v (congrArg Value.bool (by simp only[a0l,show decide (((r.options.length:Nat):Int)=0)=decide (((r.options.length:Nat):Int)<1) from by rw[decide_eq_decide];omega,h14,a1b hlt (show a4m (r.options.take i) r.options[i]=false by simp only[a4m,b3H (show m<i from oM) hlm h44,bS]),bS]))
      ·refine go 9 ?_;exact a0w (m+1) ⟨oM,a1E (p:=fun x=>decide (x=r.options[i])) hq (show m<r.options.length from oM) h44⟩ oM rfl sb rfl
     ·refine go 12 ?_;exact a0w (i+1) ⟨oM,a1l hn hlt (by simp only[a4m,b5u hq (show i≤m from oM),p28,bS])⟩ oM rfl sb rfl
   ·refine go 12 ?_;have e:i=r.options.length:=oM;subst e;exact q_v (congrArg Value.bool (by simp only[a0l,hn,show decide (((r.options.length:Nat):Int)=0)=decide (((r.options.length:Nat):Int)<1) from by rw[decide_eq_decide];omega,h14];rfl))
theorem b4v (I:IMap) (r:Rep) (S:Option Addr) (d:Nat) (hr:RdS I (.slice S r.options.length d) r.options) (hs:∀e∈r.options,SmE e) :
    FnV prog 97 #[.agg (r.cells (.slice S r.options.length d)).toArray] I (.int .i64 (chs r)):=by
 have hl5:=hr.lenLe;refine enter func97 call97 rfl ntmps97 rfl fun w0=>?_;refine go 4 fun g1=>?_
 refine go 8 ?_;refine cV (b9q _ r S d hr hs) ?_;refine gC 3 (fun h5 p5=>?_) fun h5 p5=>?_
 ·refine go 8 ?_;exact q_v (congrArg (Value.int .i64) (by simp only[chs,show a0l r=false by simpa using h5,Bool.true_eq_false,Bool.false_eq_true,if_true,if_false]))
 ·have hl4:=a2S (r:=r) (by simpa using h5);refine gC 9 (fun h7 p7=>?_) fun h7 p7=>?_
  ·refine go 5 ?_;refine o_v rfl (a2h rfl rfl ⟨oM,by have:=hl4;omega⟩) ?_;refine go 6 ?_;exact q_v (congrArg (Value.int .i64) (by simp only[chs,show a0l r=true by simpa using h5,h7,Bool.true_eq_false,Bool.false_eq_true,if_true,if_false]))
  ·refine go 12 ?_;exact q_v (congrArg (Value.int .i64) (by simp only[chs,show a0l r=true by simpa using h5,h7,Bool.true_eq_false,Bool.false_eq_true,if_true,if_false]))
theorem c6g (I:IMap) (v:Value) (l:List Rep) (hv:RdS I v l) (n:Int) :
    FnV prog 35 #[v,.int .i64 n] I (.bool (c9a l n)):=by
 obtain⟨A,c0,rfl,hA,hc,hm⟩:=hv;refine enter func35 call35 rfl ntmps35 rfl fun w0=>?_;refine go 12 ?_
 refine a0x (α:=Nat) 0 (fun i=>I)
  (fun i=>[(0,.slice A l.length c0),(1,.int .i64 n),(5,.int .i64 ((i:Nat):Int))])
  (fun i=>[])
  (fun i=>i≤l.length∧a3A (fun _ r=>c4D r.options 6) l i=true)
  (fun i=>l.length-i) ⟨Nat.zero_le _,rfl⟩ rfl sb rfl ?_
 intro i ⟨hi,hn⟩;refine gS 8 10 (fun h10 p10=>?_) fun h10 p10=>?_
 ·have hlt:i<l.length:=oM;refine gC 7 (fun h15 p15=>?_) fun h15 p15=>?_
  ·have hlt:i<l.length:=oM;refine go 8 ?_;obtain⟨b20,o20,w20,e20,c20,r20⟩:=RdA.at_ hA (i:=i) hlt;obtain⟨q20,rfl,S20,d20,rfl,hS20,hd20,hm20⟩:=r20;refine go 4 ?_;refine cV (d0B _ _ l[i].options ⟨_,_,rfl,hS20,hd20,hm20⟩ 6) ?_;refine gC 3 (fun h24 p24=>?_) fun h24 p24=>?_
   ·refine go 12 ?_;exact q_v (congrArg Value.bool (by simp only[c9a,a1b (f:=fun _ r=>c4D r.options 6) hlt (by simpa using h24),bS]))
   ·refine go 9 ?_;exact a0w (i+1) ⟨oM,a1l hn hlt (by simpa using h24)⟩ oM rfl sb rfl
  ·refine go 16 ?_;exact q_v (congrArg Value.bool (by rw[c9a,show decide (((l.length:Nat):Int)≤n)=false from decide_eq_false oM];simp))
 ·refine go 24 ?_;have e:i=l.length:=oM;subst e;exact q_v (congrArg Value.bool (by simp only[c9a,hn,bS]))
end Go.Proofs.YtgmkjpafapgccaaGreat
namespace Go.Proofs.YtgmkjpafapgccaaGreat
open Go Go.Sx Tryz
set_option linter.all false
set_option maxRecDepth 20000
set_option maxHeartbeats 4000000
theorem c2x (I:IMap) (v:Value) (l:List Rep) (hv:RdS I v l) (hl:l.length≤1000000) (hsl:∀r∈l,∀e∈r.options,SmE e) (w:Value) (ch:List Int) (hw:RdS I w ch) :
    FnI prog 20 #[v,w] I (fun u J=>∃z,u = .tuple #[z,.int .i64 (a2f l ch).2]∧RdS J z (a2f l ch).1):=by
 obtain⟨A,c0,rfl,hA,hc,hm⟩:=hv;obtain⟨B,c1,rfl,hB,hc1,hm1⟩:=hw;refine enter func20 call20 rfl ntmps20 rfl fun w0=>?_;refine go 6 ?_;refine c0k ?_;refine gC 10 (fun h14 p14=>?_) fun h14 p14=>?_
 ·refine go 8 ?_;refine a4A ?_;refine go 1 ?_;exact q_i ⟨_,by rw[b4o (by simpa using h14)],by rw[b4o (by simpa using h14)];exact RdS.nil'⟩
 ·have hle:((l.length:Nat):Int)=(ch.length:Nat):=by simpa using h14
  refine go 4 ?_;refine a0G 130 14 ?_;refine go 4 ?_;refine c0j ?_;refine go 10 ?_
  refine a4G ((0:Nat)) (_) ([]) ([]) (fun i v6 xs out=>I)
   (fun i v6 xs out=>[(1,.slice B ch.length c1),(6,v6),(15,.slice A l.length c0),(16,.int .i64 ((l.length:Nat):Int)),(17,.int .i64 ((i:Nat):Int))])
   (fun i v6 xs out=>[.row v6 130 14 out.length xs])
   (fun i v6 xs out=>i≤l.length∧a8Z okK l ch i=true∧a6k l ch i=out∧Flat I xs out)
   (fun i v6 xs out=>l.length-i) ⟨Nat.zero_le _,rfl,rfl,.nil⟩ rfl sb rfl ?_
  intro i v6 xs out ⟨hi,hok,hev,hF⟩;have hol:out.length≤i:=by rw[←hev];exact c0W _ _ _
  refine gC 6 (fun h18 p18=>?_) fun h18 p18=>?_
  ·have hlt:i<l.length:=oM;have hlt2:i<ch.length:=oM;refine go 7 ?_;obtain⟨b20,o20,w20,e20,c20,r20⟩:=RdA.at_ hA (i:=i) oM;obtain⟨q20,rfl,S20,d20,rfl,hS20,hd20,hm20⟩:=r20;refine go 4 fun g8=>?_
   refine go 9 ?_;obtain⟨b24,o24,w24,e24,c24,r24⟩:=RdA.at_ hB (i:=i) oM;obtain rfl:=r24;refine gS 11 28 (fun h28 p28=>?_) fun h28 p28=>?_
   ·have hbad:okK l[i] ch[i]=false:=by simp[okK,h28]
    refine go 21 ?_;refine a4A ?_;refine go 1 ?_;exact q_i ⟨_,by rw[a6b hlt hlt2 hbad],by rw[a6b hlt hlt2 hbad];exact RdS.nil'⟩
   ·refine go 3 ?_;refine a0q rfl rfl h28 (a0v (a5a _ l[i] S20 d20 ⟨_,_,rfl,hS20,hd20,hm20⟩ (hsl _ (List.getElem_mem hlt))) rfl rfl ?_);refine gC 4 (fun h33 p33=>?_) fun h33 p33=>?_
    ·have hbad:okK l[i] ch[i]=false:=by simp_all [okK]
     refine go 13 ?_;refine a4A ?_;refine go 1 ?_;exact q_i ⟨_,by rw[a6b hlt hlt2 hbad],by rw[a6b hlt hlt2 hbad];exact RdS.nil'⟩
    ·have hgood:okK l[i] ch[i]=true:=by simp_all [okK]
     have hcl:=d2e l[i];refine gC 12 (fun h38 p38=>?_) fun h38 p38=>?_
     ·refine go 9 ?_;refine a0a ?_;exact a1V (i+1) (_) (_) (out) ⟨oM,a7G hok hlt hlt2 hgood,d2u hlt hlt2 hev (by simpa using h38),hF⟩ oM rfl sb (by first|rfl|(simp only[List.length_append,List.length_singleton];rfl)|simp only[List.length_append,List.length_singleton])
     ·have hk:ch[i].toNat<l[i].options.length:=by simp_all [okK];omega
      refine go 7 ?_;obtain⟨b43,o43,w43,e43,c43,r43⟩:=RdA.at_ hS20 (i:=ch[i].toNat) hk;obtain rfl:=r43;refine o_v rfl (a0m he rfl rfl e43 (ch[i].toNat) oM hk) ?_;refine go 3 fun v45=>?_
      refine go 1 ?_;refine a0d ?_;refine a0z he he rfl rfl rfl rfl rfl oM oM rfl fun v46=>?_;refine go 9 ?_;refine a0b ?_;refine a0a ?_;refine a0b ?_;refine a0a ?_;exact a1V (i+1) (_) (_) (out++[l[i].options[ch[i].toNat]]) ⟨oM,a7G hok hlt hlt2 hgood,c8Y hlt hlt2 hev hk,hF.append (.one rfl)⟩ oM rfl sb (by first|rfl|(simp only[List.length_append,List.length_singleton];rfl)|simp only[List.length_append,List.length_singleton])
  ·refine go 7 ?_;obtain rfl:i=l.length:=oM;refine a0i (l:=out) rfl rfl (hF) fun Ip jp Rp=>?_;refine go 6 ?_;refine a4A ?_;refine go 1 ?_;exact q_i ⟨_,by rw[b4p hle hok],by rw[b4p hle hok,hev];exact Rp⟩
end Go.Proofs.YtgmkjpafapgccaaGreat
namespace Go.Proofs.YtgmkjpafapgccaaGreat
open Go Go.Sx Tryz
set_option linter.all false
set_option maxRecDepth 20000
set_option maxHeartbeats 4000000
instance:Has (prog.underlying 357) (.int .u64):=hk
theorem d2L (I:IMap) (s:ByteArray) :
    FnV prog 223 #[.string s] I (.bool false):=by
 refine enter func223 call223 rfl ntmps223 rfl fun w0=>?_;refine go 15 ?_;exact q_v (congrArg Value.bool (by simp))
theorem d5O (I:IMap) (s t:ByteArray) :
    FnV prog 239 #[.string s,.string t] I (.bool (sLt s t)):=by
 refine enter func239 call239 rfl ntmps239 rfl fun w0=>?_;refine go 9 ?_;refine cV (d2L _ s) ?_;refine go 15 ?_;exact q_v rfl
theorem d2J (I:IMap) {rest:Rst 1} {cap:Nat} (g:Nat) (l:List ByteArray) (hl2:l.length≤12) (hc:l.length+rest.l.length=cap) (hcm:cap≤maxLen) :
    FnX prog 233 #[.slice (some ⟨g,0,none⟩) l.length cap,.int .i64 0,.int .i64 ((l.length:Nat):Int)] I [.blk g 9 (a1q l++rest.l).flatten] (fun u r=>u = .tuple #[]∧∃m,Pm l m∧r = .blk g 9 (a1q m++rest.l).flatten):=by
 refine enter func233 call233 rfl ntmps233 rfl fun w0=>?_;refine go 3 ?_;refine o_v rfl (OV.cast (u:=.int .i64 ((1:Nat):Int)) (a2h rfl rfl ⟨oM,oM⟩) (congrArg (Value.int .i64) oM)) ?_;refine go 4 ?_
 refine a0L (1) (l) (fun i m=>I)
  (fun i m=>[(0,.slice (some ⟨g,0,none⟩) l.length cap),(1,.int .i64 0),(2,.int .i64 ((l.length:Nat):Int)),(6,.int .i64 ((i:Nat):Int))])
  (fun i m=>[.blk g 9 (a1q m++rest.l).flatten])
  (fun i m=>(i≤l.length∨i=1)∧Pm l m)
  (fun i m=>l.length-i) ⟨.inr rfl,Pm.refl l⟩ rfl sb rfl ?_
 intro i m ⟨hi,hpm⟩;refine gC 8 (fun h12 p12=>?_) fun h12 p12=>?_
 ·have hlt:i<l.length:=oM;refine go 11 ?_
  refine a0L (i) (m) (fun j k=>I)
   (fun j k=>[(0,.slice (some ⟨g,0,none⟩) l.length cap),(1,.int .i64 0),(2,.int .i64 ((l.length:Nat):Int)),(6,.int .i64 ((i:Nat):Int)),(7,.int .i64 ((j:Nat):Int))])
   (fun j k=>[.blk g 9 (a1q k++rest.l).flatten])
   (fun j k=>j≤i∧Pm l k)
   (fun j k=>j) ⟨Nat.le_refl _,hpm⟩ rfl sb rfl ?_
  intro j k ⟨hj,hpk⟩;have hkl:=hpk.1;refine go 3 ?_;refine dG 0 4 ?_;refine gS 0 19 (fun h19 p19=>?_) fun h19 p19=>?_
  ·have hjk:j<k.length:=oM;have hjk1:j-1<k.length:=oM;refine dG 4 2 ?_;refine d_t 6 rfl rfl (by kernel_rfl) rfl (fun _ m=>m.keeps (.refl _)) (a2V rfl rfl h19 (a0m he rfl rfl rfl (j) oM oM)) ?_;refine d_t 7 rfl rfl (by kernel_rfl) rfl (fun _ m=>m.keeps (.refl _)) (a2V rfl rfl h19 (a6n m0 (Uk.append (a1I _) rest.uk) he rfl (j) oM (a5r hjk))) ?_;refine dG 8 2 ?_;refine d_t 10 rfl rfl (by kernel_rfl) rfl (fun _ m=>m.keeps (.refl _)) (a2V rfl rfl h19 (OV.cast (u:=.int .i64 ((j-1:Nat):Int)) (a1f rfl rfl ⟨oM,oM⟩) (congrArg (Value.int .i64) oM))) ?_;refine d_t 11 rfl rfl (by kernel_rfl) rfl (fun _ m=>m.keeps (.refl _)) (a2V rfl rfl h19 (a0m he rfl rfl rfl (j-1) oM oM)) ?_;refine d_t 12 rfl rfl (by kernel_rfl) rfl (fun _ m=>m.keeps (.refl _)) (a2V rfl rfl h19 (a6n m0 (Uk.append (a1I _) rest.uk) he rfl (j-1) oM (a5r hjk1))) ?_;refine dH 13 0 ?_;refine a0q rfl rfl h19 (a0v (d5O _ _ _) rfl rfl ?_);refine dG 14 1 ?_;refine gC 2 (fun h30 p30=>?_) fun h30 p30=>?_
   ·refine go 4 ?_;refine ds1 ?_;refine dG 0 4 ?_;refine a0I 4 rfl rfl (by kernel_rfl) rfl (.cons _ .slnil) rfl (OV.cast (u:=.int .i64 ((j-1:Nat):Int)) (a1f rfl rfl ⟨oM,oM⟩) (congrArg (Value.int .i64) oM)) ?_;refine dG 5 2 ?_;refine a0I 7 rfl rfl (by kernel_rfl) rfl (.cons _ .slnil) rfl (OV.cast (u:=.int .i64 ((j-1:Nat):Int)) (a1f rfl rfl ⟨oM,oM⟩) (congrArg (Value.int .i64) oM)) ?_;refine a0I 8 rfl rfl (by kernel_rfl) rfl (.cons _ .slnil) rfl (a0m he rfl rfl rfl (j-1) oM oM) ?_;refine dG 10 2 ?_;refine a0I 12 rfl rfl (by kernel_rfl) rfl (.cons _ .slnil) rfl (a0m he rfl rfl rfl (j) oM oM) ?_;refine dT2 9 13 ?_ ?_
    ·refine a0t rfl (a6n m0 (Uk.append (a1I _) rest.uk) he rfl (j-1) oM (a5r hjk1)) ?_;refine dH 13 0 ?_;refine a0t rfl (a6n m0 (Uk.append (a1I _) rest.uk) he rfl (j) oM (a5r hjk)) ?_;refine go 1 ?_;refine a0I 14 rfl rfl (by kernel_rfl) rfl (.cons _ .slnil) rfl (a0m he rfl rfl rfl (j) oM oM) ?_;refine dH 15 0 ?_;refine a1O _ (j) (by first|exact Uk.append (a1I _) rest.uk|exact (Uk.append (a1I _) rest.uk).set rfl _) he rfl rfl rfl rfl rfl oM (by simp[a2g];omega) ?_;refine go 1 ?_;refine a0I 16 rfl rfl (by kernel_rfl) rfl (.cons _ .slnil) rfl (a0m he rfl rfl rfl (j-1) oM oM) ?_;refine dH 17 0 ?_;refine a1O _ (j-1) (by first|exact Uk.append (a1I _) rest.uk|exact (Uk.append (a1I _) rest.uk).set rfl _) he rfl rfl rfl rfl rfl oM (by simp[a2g];omega) ?_;refine go 6 ?_;refine o_v rfl (OV.cast (u:=.int .i64 ((j-1:Nat):Int)) (a1f rfl rfl ⟨oM,oM⟩) (congrArg (Value.int .i64) oM)) ?_;refine go 3 ?_;exact a0n (j-1) ((k.set j k[j-1]).set (j-1) k[j]) ⟨oM,hpk.swap hjk hjk1⟩ oM rfl sb (by first|rw[←c2W hjk hjk1] | rw[←b7W hjk hjk1 oM])
    ·refine a0t rfl (a6n m0 (Uk.append (a1I _) rest.uk) he rfl (j) oM (a5r hjk)) ?_;refine dH 9 0 ?_;refine a0t rfl (a6n m0 (Uk.append (a1I _) rest.uk) he rfl (j-1) oM (a5r hjk1)) ?_;refine go 1 ?_;refine a0I 14 rfl rfl (by kernel_rfl) rfl (.cons _ .slnil) rfl (a0m he rfl rfl rfl (j) oM oM) ?_;refine dH 15 0 ?_;refine a1O _ (j) (by first|exact Uk.append (a1I _) rest.uk|exact (Uk.append (a1I _) rest.uk).set rfl _) he rfl rfl rfl rfl rfl oM (by simp[a2g];omega) ?_;refine go 1 ?_;refine a0I 16 rfl rfl (by kernel_rfl) rfl (.cons _ .slnil) rfl (a0m he rfl rfl rfl (j-1) oM oM) ?_;refine dH 17 0 ?_;refine a1O _ (j-1) (by first|exact Uk.append (a1I _) rest.uk|exact (Uk.append (a1I _) rest.uk).set rfl _) he rfl rfl rfl rfl rfl oM (by simp[a2g];omega) ?_;refine go 6 ?_;refine o_v rfl (OV.cast (u:=.int .i64 ((j-1:Nat):Int)) (a1f rfl rfl ⟨oM,oM⟩) (congrArg (Value.int .i64) oM)) ?_;refine go 3 ?_;exact a0n (j-1) ((k.set j k[j-1]).set (j-1) k[j]) ⟨oM,hpk.swap hjk hjk1⟩ oM rfl sb (by first|rw[←c2W hjk hjk1] | rw[←b7W hjk hjk1 oM])
   ·refine go 12 ?_;exact a0n (i+1) (k) ⟨.inl oM,hpk⟩ oM rfl sb rfl
  ·refine dG 4 11 ?_;refine go 15 ?_;exact a0n (i+1) (k) ⟨.inl oM,hpk⟩ oM rfl sb rfl
 ·refine go 5 ?_;exact q_x ⟨rfl,m,hpm,rfl⟩
theorem d3i (I:IMap) {rest:Rst 1} {cap:Nat} (g:Nat) (l:List ByteArray) (hl2:l.length≤12) (hc:l.length+rest.l.length=cap) (hcm:cap≤maxLen) (z:Int) :
    FnX prog 159 #[.slice (some ⟨g,0,none⟩) l.length cap,.int .i64 0,.int .i64 ((l.length:Nat):Int),.int .i64 z] I [.blk g 9 (a1q l++rest.l).flatten] (fun u r=>u = .tuple #[]∧∃m,Pm l m∧r = .blk g 9 (a1q m++rest.l).flatten):=by
 refine enter func159 call159 rfl ntmps159 rfl fun w0=>?_;refine go 11 ?_
 refine a0x (α:=Nat) 0 (fun i=>I)
  (fun i=>[(0,.slice (some ⟨g,0,none⟩) l.length cap),(1,.int .i64 0),(2,.int .i64 ((l.length:Nat):Int))])
  (fun i=>[.blk g 9 (a1q l++rest.l).flatten])
  (fun i=>True)
  (fun i=>0) trivial rfl sb rfl ?_
 intro i _;refine go 5 ?_;refine o_v rfl (OV.cast (u:=.int .i64 ((l.length:Nat):Int)) (a1f rfl rfl ⟨oM,oM⟩) (congrArg (Value.int .i64) oM)) ?_;refine go 7 ?_;refine o_v rfl (OV.cast (u:=.bool true) (d1s rfl rfl) (congrArg Value.bool (decide_eq_true oM))) ?_;refine go 9 ?_;refine a0K (d2J _ g l hl2 hc hcm) rfl rfl fun v27 s27 q27=>?_;obtain⟨rfl,m,hpm,rfl⟩:=q27;refine go 8 ?_;exact q_x ⟨rfl,m,hpm,rfl⟩
theorem d5N (I:IMap) (n:Nat) (hn:n<200) :
    FnE prog 243 #[.int .u64 ((n:Nat):Int)] I (fun u=>∃k:Nat,u = .int .i64 (k:Int)):=by
 refine enter func243 call243 rfl ntmps243 rfl fun w0=>?_;refine go 9 ?_;refine o_v rfl (OV.cast (u:=.bool false) (b9D rfl rfl) (congrArg Value.bool (decide_eq_false oM))) ?_;refine go 9 ?_;refine o_v rfl (OV.cast (u:=.bool false) (b9D rfl rfl) (congrArg Value.bool (decide_eq_false oM))) ?_;refine go 9 ?_;refine o_v rfl (OV.cast (u:=.bool false) (b9D rfl rfl) (congrArg Value.bool (decide_eq_false oM))) ?_;refine go 9 ?_;refine o_v rfl (a1K he he rfl (m:=((n:Nat):Int)) (c3K n oM)) ?_;refine o_v rfl (d1v he rfl rfl n rfl (Nat.lt_of_lt_of_le hn (by decide +kernel))) ?_;refine o_v rfl (a1K he he rfl (c8J _)) ?_;refine o_v rfl (a2h rfl rfl (c4n _)) ?_;refine go 5 ?_;exact q_e ⟨_,by rw[Int.zero_add]⟩
theorem c0c (I:IMap) (n:Nat) (hn:n<200) :
    FnE prog 160 #[.int .u64 ((n:Nat):Int)] I (fun u=>∃k:Nat,u = .int .i64 (k:Int)):=by
 refine enter func160 call160 rfl ntmps160 rfl fun w0=>?_;refine go 13 ?_;refine a1n (d5N _ n hn) rfl rfl fun v7 q7=>?_;obtain⟨k,rfl⟩:=q7;refine go 5 ?_;exact q_e ⟨_,rfl⟩
theorem d0W (I:IMap) {rest:Rst 1} {cap:Nat} (g:Nat) (l:List ByteArray) (hl2:l.length≤12) (hc:l.length+rest.l.length=cap) (hcm:cap≤maxLen) :
    FnX prog 78 #[.slice (some ⟨g,0,none⟩) l.length cap] I [.blk g 9 (a1q l++rest.l).flatten] (fun u r=>u = .tuple #[]∧∃m,Pm l m∧r = .blk g 9 (a1q m++rest.l).flatten):=by
 refine enter func78 call78 rfl ntmps78 rfl fun w0=>?_;refine go 11 ?_;refine o_v rfl (a1K he he rfl (m:=((l.length:Nat):Int)) (wrap_u64 _ oM oM)) ?_;refine go 1 ?_;refine a1n (c0c _ l.length oM) rfl rfl fun v9 q9=>?_;obtain⟨z,rfl⟩:=q9;refine go 1 ?_;refine a0K (d3i _ g l hl2 hc hcm z) rfl rfl fun v10 s10 q10=>?_;obtain⟨rfl,m,hpm,rfl⟩:=q10;refine go 2 ?_;exact q_x ⟨rfl,m,hpm,rfl⟩
theorem d2I (I:IMap) :
    FnV prog 233 #[.slice none 0 0,.int .i64 0,.int .i64 0] I (.tuple #[]):=by
 refine enter func233 call233 rfl ntmps233 rfl fun w0=>?_;refine go 3 ?_;refine o_v rfl (OV.cast (u:=.int .i64 ((1:Nat):Int)) (a2h rfl rfl ⟨oM,oM⟩) (congrArg (Value.int .i64) oM)) ?_;refine go 4 ?_
 refine a0x (α:=Nat) 0 (fun i=>I)
  (fun i=>[(2,.int .i64 0),(6,.int .i64 1)])
  (fun i=>[])
  (fun i=>True)
  (fun i=>0) trivial rfl sb rfl ?_
 intro i _;refine go 5 ?_;refine o_v rfl (OV.cast (u:=.bool false) (b9F rfl rfl) (congrArg Value.bool (decide_eq_false oM))) ?_;refine go 8 ?_;exact q_v rfl
theorem d3h (I:IMap) (z:Int) :
    FnV prog 159 #[.slice none 0 0,.int .i64 0,.int .i64 0,.int .i64 z] I (.tuple #[]):=by
 refine enter func159 call159 rfl ntmps159 rfl fun w0=>?_;refine go 11 ?_
 refine a0x (α:=Nat) 0 (fun i=>I)
  (fun i=>[(0,.slice none 0 0),(1,.int .i64 0),(2,.int .i64 0)])
  (fun i=>[])
  (fun i=>True)
  (fun i=>0) trivial rfl sb rfl ?_
 intro i _;refine go 5 ?_;refine o_v rfl (OV.cast (u:=.int .i64 0) (a1f rfl rfl ⟨oM,oM⟩) rfl) ?_;refine go 7 ?_;refine o_v rfl (OV.cast (u:=.bool true) (d1s rfl rfl) (congrArg Value.bool (decide_eq_true oM))) ?_;refine go 9 ?_;refine cV (d2I _) ?_;refine go 8 ?_;exact q_v rfl
theorem b7R (I:IMap) :
    FnV prog 78 #[.slice none 0 0] I (.tuple #[]):=by
 refine enter func78 call78 rfl ntmps78 rfl fun w0=>?_;refine go 11 ?_;refine o_v rfl (a1K he he rfl (m:=((0:Nat):Int)) (wrap_u64 _ oM oM)) ?_;refine go 1 ?_;refine a1n (c0c _ 0 oM) rfl rfl fun v9 q9=>?_;obtain⟨z,rfl⟩:=q9;refine go 1 ?_;refine cV (d3h _ z) ?_;refine go 2 ?_;exact q_v rfl
theorem b7S (I:IMap) (v:Value) (l:List ByteArray) (xs:List Value) (hF:Flat I xs l) (hl2:l.length≤12) :
  FnX prog 78 #[v] I [.row v 9 1 l.length xs] (fun u r=>u = .tuple #[]∧∃m ys,Pm l m∧Flat I ys m∧r = .row v 9 1 l.length ys):=by
 obtain⟨xss,rfl,hC⟩:=FlatC.of hF;refine FnX.of_rowV (args:=fun v=>[v]) hC.uk hC.len (fun h0 h1=>?_) fun g cap rest hv hR hc hcm=>?_
 ·obtain rfl:l=[]:=List.eq_nil_of_length_eq_zero h0;subst h1;refine (FnX.of_V (t:=9) (k:=1) (b7R I)).weak ?_;rintro u r ⟨rfl,rfl⟩;exact⟨rfl,[],[],Pm.refl _,.nil,rfl⟩
 ·subst hv;obtain rfl:=b7V hC;refine FnX.backE (k:=1) ((d0W I (rest:=⟨rest,hR⟩) g l hl2 hc hcm).weak ?_);rintro u r ⟨rfl,m,hpm,rfl⟩;exact⟨a1q m,rest,l.length,cap,a1I m,hR,by rw[a2g,hpm.1],hc,hcm,rfl,rfl,m,_,hpm,(a3d I m).flat,rfl⟩
theorem d0V (I:IMap) (v:Value) (l:List ByteArray) (xs:List Value) (hF:Flat I xs l) (hl:0<l.length) (hl2:l.length≤12) :
  FnX prog 78 #[v] I [.row v 9 1 l.length xs] (fun u r=>u = .tuple #[]∧∃m ys,Pm l m∧Flat I ys m∧r = .row v 9 1 l.length ys):=b7S I v l xs hF hl2
end Go.Proofs.YtgmkjpafapgccaaGreat
