
import Derived.Test.YtdapmfkbpnjkmaaGreatZBhg
import Derived.ChangeMaps5
import Derived.OpenShut
import Derived.ProofKit
import Derived.Test.YtdapmfkbpnjkmaaGreatRows
namespace Go.Proofs.YtdapmfkbpnjkmaaGreat
open Go Go.Sx
set_option linter.all false
set_option maxRecDepth 20000
set_option maxHeartbeats 4000000
instance T.arr_81:Has (b6f Tryz.prog 81) (3,4,1):=⟨by kernel_rfl⟩
theorem T.cel_4:Tryz.prog.cellsOf 4=1:=by kernel_rfl
theorem T.eqg_46:Tryz.prog.eqGuardType Tryz.prog.depth 46=false:=by kernel_rfl
theorem T.eqg_81:Tryz.prog.eqGuardType Tryz.prog.depth 81=false:=by kernel_rfl
theorem T.inf_4:(Tryz.prog.info? 4).isSome=true:=by kernel_rfl
instance T.ty_81:Has (tyK Tryz.prog 81) (true,3):=⟨by kernel_rfl⟩
instance T.zero_81:Has (a2e Tryz.prog 81) [.bool false,.bool false,.bool false]:=⟨by kernel_rfl⟩
theorem c0V (I:IMap) (vc:Value) (c:List Kind) (hvc:RdS I vc c) (hoc:∀x∈c,c9L x) (f:Fm) (sf:Value) (hf:FmRd I [ci f.op,ci f.n,sf] f) (hof:OkFm f) (v:Value) (l:List Rep) (hv:RdS I v l) (hok:∀x∈l,d2i x) (p:ByteArray) (wp:p.size≤maxLen) (day:Int) (wd:(Lit.int .i64 day).wf=true) :
    FnV Tryz.prog 10 #[.agg #[vc,ci f.op,ci f.n,sf],v,.string p,.int .i64 (day)] I (.bool true):=by
 have hv0:=hv
 obtain⟨A,c0,rfl,hA,hc,hm⟩:=hv0;refine enter Tryz.func10 Tryz.call10 rfl Tryz.ntmps10 rfl (fun w0=>?_);refine go 3 ?_;refine a0y _ rfl rfl rfl (fun g4=>?_);refine go 6 ?_;refine a0a (c6c _) rfl rfl ?_;refine go 9 ?_;refine a0a (b6T _ vc c hvc f sf hf _ l hv) rfl rfl ?_;refine go 2 ?_;refine sxb 22 rfl (fun h22 p22=>?_) (fun h22 p22=>?_)
 ·refine go 6 ?_;refine a3B rfl ?_;refine go 8 ?_;refine a0u rfl rfl ?_;exact a8X rfl
 ·refine go 6 ?_;refine cb rfl (fun h26 p26=>?_) (fun h26 p26=>?_)
  ·refine go 8 ?_;refine a0u rfl rfl ?_;exact a8X rfl
  ·obtain⟨hsc,hl12,hsl,_⟩:=b6A (show b3f c f l=true by simpa using h22)
   have hl:l.length≤1000000:=by omega
   obtain⟨R,hR⟩:=a9a l;refine go 9 ?_;refine a1e (a6U _ vc c hvc hsc f sf hf _ l hv (by omega) hsl R hR p day) rfl rfl (fun v33 I33 j33 q33=>?_)
   try have hvc:=hvc.le j33
   try have hf:=hf.le j33
   try have hv:=hv.le j33
   try have hA:=hA.le j33
   try have q62:=q62.le j33
   try have q63:=q63.le j33
   try have Ro:=Ro.le j33
   obtain rfl:=q33;obtain⟨S0,hS⟩:∃q,q=bndLife f c l (a0I l R p) p day:=⟨_,rfl⟩;rw[←hS];refine go 4 ?_;refine a0h he rfl (fun g10=>?_);refine go 1 ?_;refine a0p _ he rfl rfl rfl rfl rfl rfl ?_;refine go 10 ?_;refine cb rfl (fun h37 p37=>?_) (fun h37 p37=>?_)
   ·have hz:S0.1=⟨a4l,a4l,a4l⟩:=by rw[hS];exact c0L (by rw[←hS];simpa using h37)
    refine go 6 ?_;refine a0E rfl rfl rfl (a0s rfl (a0z (pl:=[(0,2),(2,2),(4,2)]) he he rfl rfl) ?_);refine a0H (a0E rfl rfl rfl (a0s rfl (OV.cast (u:=.bool true) (a6g T.eqg_46 (c3B S0.1 ⟨a4l,a4l,a4l⟩) rfl rfl) (congrArg Value.bool (decide_eq_true (hz)))) ?_));refine go 6 ?_;refine a0u rfl rfl ?_;exact a8X rfl
   ·have h0:S0.2=0:=by simpa using h37
    refine go 9 ?_;refine a1e (b8I _ vc c hvc hsc f sf hf _ l hv (by omega) hsl R hR p day) rfl rfl (fun v48 I48 j48 q48=>?_)
    try have hvc:=hvc.le j48
    try have hf:=hf.le j48
    try have hv:=hv.le j48
    try have hA:=hA.le j48
    try have q62:=q62.le j48
    try have q63:=q63.le j48
    try have Ro:=Ro.le j48
    obtain⟨W,hW⟩:∃q,q=(a1Z c (a0I l R p) 64).1.map (livG f c (a0I l R p) p day):=⟨_,rfl⟩;rw[←hW]at q48
    obtain⟨A12,c12,rfl,hA12,_,_⟩:=q48;obtain⟨hh1,hh2,hh3⟩:=c0M hS hW h0;refine go 6 ?_;refine a0h he rfl (fun g13=>?_);refine go 1 ?_;refine a0h he rfl (fun g14=>?_);refine go 9 ?_
    refine a0N (α:=Nat) 0 (fun i=>I48)
     (fun i=>[(1,.slice A l.length c0),(2,.string p),(3,.int .i64 (day)),(4,.pointer (some ⟨g4,0,none⟩)),(9,.bool true),(10,.pointer (some ⟨g10,0,none⟩)),(12,.slice A12 W.length c12),(13,.pointer (some ⟨g13,0,none⟩)),(14,.pointer (some ⟨g14,0,none⟩)),(15,.int .i64 ((i:Nat):Int))])
     (fun i=>[.blk g14 81 [.bool ((W.take i).any (a4P S0.1 3)),.bool ((W.take i).any (a4P S0.1 4)),.bool ((W.take i).any (a4P S0.1 5))],.blk g13 81 [.bool ((W.take i).any (a4P S0.1 0)),.bool ((W.take i).any (a4P S0.1 1)),.bool ((W.take i).any (a4P S0.1 2))],.blk g10 46 S0.1.cells,.blk g4 72 [vc,ci f.op,ci f.n,sf]])
     (fun i=>i≤W.length)
     (fun i=>W.length-i) (Nat.zero_le _) rfl sb rfl ?_
    intro i hi;refine go 9 ?_;refine cb rfl (fun h52 p52=>?_) (fun h52 p52=>?_)
    ·have hlt:i<W.length:=by omega
     refine go 3 ?_;refine a4z (α:=Bool) (Ix:=(fun bk=>I48)) (Lx:=(fun bk=>[(1,.slice A l.length c0),(2,.string p),(3,.int .i64 (day)),(4,.pointer (some ⟨g4,0,none⟩)),(9,.bool true),(10,.pointer (some ⟨g10,0,none⟩)),(12,.slice A12 W.length c12),(13,.pointer (some ⟨g13,0,none⟩)),(14,.pointer (some ⟨g14,0,none⟩)),(15,.int .i64 ((i:Nat):Int))])) (Hx:=(fun bk=>[.blk g14 81 [.bool ((W.take (i+1)).any (a4P S0.1 3)),.bool ((W.take (i+1)).any (a4P S0.1 4)),.bool bk],.blk g13 81 [.bool ((W.take (i+1)).any (a4P S0.1 0)),.bool ((W.take (i+1)).any (a4P S0.1 1)),.bool ((W.take (i+1)).any (a4P S0.1 2))],.blk g10 46 S0.1.cells,.blk g4 72 [vc,ci f.op,ci f.n,sf]])) (p:=(fun bk=>bk=((W.take (i+1)).any (a4P S0.1 5)))) ?_ ?_
     ·refine go 5 ?_;obtain⟨b57,o57,w57,e57,c57,r57⟩:=RdA.at_ hA12 (i:=i) hlt;obtain rfl:=r57;refine o_v rfl (a0m he rfl rfl e57 (i) (by omega) hlt) ?_;refine o_v rfl (a0G he rfl c57 rfl) ?_;refine go 1 ?_;refine a0h he rfl (fun g16=>?_);refine go 1 ?_;refine a0p _ he rfl rfl rfl rfl rfl rfl ?_;refine go 8 ?_;refine a0a (b7D _ W[i] S0.1 (hh1 i hlt)) rfl rfl ?_;refine go 3 ?_;refine a0X rfl ?_;refine go 3 ?_;refine a4z (α:=Bool) (Ix:=(fun bk=>I48)) (Lx:=(fun bk=>[(1,.slice A l.length c0),(2,.string p),(3,.int .i64 (day)),(4,.pointer (some ⟨g4,0,none⟩)),(9,.bool true),(10,.pointer (some ⟨g10,0,none⟩)),(12,.slice A12 W.length c12),(13,.pointer (some ⟨g13,0,none⟩)),(14,.pointer (some ⟨g14,0,none⟩)),(15,.int .i64 ((i:Nat):Int)),(16,.pointer (some ⟨g16,0,none⟩))])) (Hx:=(fun bk=>[.blk g16 46 W[i].cells,.blk g14 81 [.bool ((W.take i).any (a4P S0.1 3)),.bool ((W.take i).any (a4P S0.1 4)),.bool ((W.take i).any (a4P S0.1 5))],.blk g13 81 [.bool bk,.bool ((W.take i).any (a4P S0.1 1)),.bool ((W.take i).any (a4P S0.1 2))],.blk g10 46 S0.1.cells,.blk g4 72 [vc,ci f.op,ci f.n,sf]])) (p:=(fun bk=>bk=((W.take (i+1)).any (a4P S0.1 0)))) ?_ ?_
      ·refine go 1 ?_;refine o_v rfl (a2c he rfl rfl 0 rfl (by omega)) ?_;refine go 2 ?_;refine sxb 65 rfl (fun h65 p65=>?_) (fun h65 p65=>?_)
       ·refine go 8 ?_;refine o_v rfl (a2c he rfl rfl 0 rfl (by omega)) ?_;refine go 1 ?_;refine a0r ?_;refine a2k he rfl rfl rfl rfl ?_;refine go 2 ?_;refine a0A ?_;refine a0A ?_;refine a0r ?_;refine a0A ?_;refine a0A ?_;exact a1O true (by rw[a3q hlt,h65];rfl) sb rfl rfl
       ·refine go 8 ?_;refine o_v rfl (a2c he rfl rfl 0 rfl (by omega)) ?_;refine go 1 ?_;refine a0r ?_;refine a2k he rfl rfl rfl rfl ?_;refine go 2 ?_;refine a0A ?_;refine a0A ?_;refine a0r ?_;refine a0A ?_;refine a0A ?_;exact a1O (decide (W[i].km.low=S0.1.km.low)) (by rw[a3q hlt,h65];rfl) sb rfl rfl
      ·intro bk hbk;subst hbk;refine go 1 ?_;refine a4z (α:=Bool) (Ix:=(fun bk=>I48)) (Lx:=(fun bk=>[(1,.slice A l.length c0),(2,.string p),(3,.int .i64 (day)),(4,.pointer (some ⟨g4,0,none⟩)),(9,.bool true),(10,.pointer (some ⟨g10,0,none⟩)),(12,.slice A12 W.length c12),(13,.pointer (some ⟨g13,0,none⟩)),(14,.pointer (some ⟨g14,0,none⟩)),(15,.int .i64 ((i:Nat):Int)),(16,.pointer (some ⟨g16,0,none⟩))])) (Hx:=(fun bk=>[.blk g16 46 W[i].cells,.blk g14 81 [.bool ((W.take i).any (a4P S0.1 3)),.bool ((W.take i).any (a4P S0.1 4)),.bool ((W.take i).any (a4P S0.1 5))],.blk g13 81 [.bool ((W.take (i+1)).any (a4P S0.1 0)),.bool bk,.bool ((W.take i).any (a4P S0.1 2))],.blk g10 46 S0.1.cells,.blk g4 72 [vc,ci f.op,ci f.n,sf]])) (p:=(fun bk=>bk=((W.take (i+1)).any (a4P S0.1 1)))) ?_ ?_
       ·refine go 1 ?_;refine o_v rfl (a2c he rfl rfl 1 rfl (by omega)) ?_;refine go 2 ?_;refine sxb 77 rfl (fun h77 p77=>?_) (fun h77 p77=>?_)
        ·refine go 8 ?_;refine o_v rfl (a2c he rfl rfl 1 rfl (by omega)) ?_;refine go 1 ?_;refine a0r ?_;refine a2k he rfl rfl rfl rfl ?_;refine go 2 ?_;refine a0A ?_;refine a0A ?_;refine a0r ?_;refine a0A ?_;refine a0A ?_;exact a1O true (by rw[a3q hlt,h77];rfl) sb rfl rfl
        ·refine go 8 ?_;refine o_v rfl (a2c he rfl rfl 1 rfl (by omega)) ?_;refine go 1 ?_;refine a0r ?_;refine a2k he rfl rfl rfl rfl ?_;refine go 2 ?_;refine a0A ?_;refine a0A ?_;refine a0r ?_;refine a0A ?_;refine a0A ?_;exact a1O (decide (W[i].cycles.low=S0.1.cycles.low)) (by rw[a3q hlt,h77];rfl) sb rfl rfl
       ·intro bk hbk;subst hbk;refine go 1 ?_;refine a4z (α:=Bool) (Ix:=(fun bk=>I48)) (Lx:=(fun bk=>[(1,.slice A l.length c0),(2,.string p),(3,.int .i64 (day)),(4,.pointer (some ⟨g4,0,none⟩)),(9,.bool true),(10,.pointer (some ⟨g10,0,none⟩)),(12,.slice A12 W.length c12),(13,.pointer (some ⟨g13,0,none⟩)),(14,.pointer (some ⟨g14,0,none⟩)),(15,.int .i64 ((i:Nat):Int)),(16,.pointer (some ⟨g16,0,none⟩))])) (Hx:=(fun bk=>[.blk g16 46 W[i].cells,.blk g14 81 [.bool ((W.take i).any (a4P S0.1 3)),.bool ((W.take i).any (a4P S0.1 4)),.bool ((W.take i).any (a4P S0.1 5))],.blk g13 81 [.bool ((W.take (i+1)).any (a4P S0.1 0)),.bool ((W.take (i+1)).any (a4P S0.1 1)),.bool bk],.blk g10 46 S0.1.cells,.blk g4 72 [vc,ci f.op,ci f.n,sf]])) (p:=(fun bk=>bk=((W.take (i+1)).any (a4P S0.1 2)))) ?_ ?_
        ·refine go 1 ?_;refine o_v rfl (a2c he rfl rfl 2 rfl (by omega)) ?_;refine go 2 ?_;refine sxb 89 rfl (fun h89 p89=>?_) (fun h89 p89=>?_)
         ·refine go 8 ?_;refine o_v rfl (a2c he rfl rfl 2 rfl (by omega)) ?_;refine go 1 ?_;refine a0r ?_;refine a2k he rfl rfl rfl rfl ?_;refine go 2 ?_;refine a0A ?_;refine a0A ?_;refine a0r ?_;refine a0A ?_;refine a0A ?_;exact a1O true (by rw[a3q hlt,h89];rfl) sb rfl rfl
         ·refine go 8 ?_;refine o_v rfl (a2c he rfl rfl 2 rfl (by omega)) ?_;refine go 1 ?_;refine a0r ?_;refine a2k he rfl rfl rfl rfl ?_;refine go 2 ?_;refine a0A ?_;refine a0A ?_;refine a0r ?_;refine a0A ?_;refine a0A ?_;exact a1O (decide (W[i].damage.low=S0.1.damage.low)) (by rw[a3q hlt,h89];rfl) sb rfl rfl
        ·intro bk hbk;subst hbk;refine go 1 ?_;refine a4z (α:=Bool) (Ix:=(fun bk=>I48)) (Lx:=(fun bk=>[(1,.slice A l.length c0),(2,.string p),(3,.int .i64 (day)),(4,.pointer (some ⟨g4,0,none⟩)),(9,.bool true),(10,.pointer (some ⟨g10,0,none⟩)),(12,.slice A12 W.length c12),(13,.pointer (some ⟨g13,0,none⟩)),(14,.pointer (some ⟨g14,0,none⟩)),(15,.int .i64 ((i:Nat):Int)),(16,.pointer (some ⟨g16,0,none⟩))])) (Hx:=(fun bk=>[.blk g16 46 W[i].cells,.blk g14 81 [.bool bk,.bool ((W.take i).any (a4P S0.1 4)),.bool ((W.take i).any (a4P S0.1 5))],.blk g13 81 [.bool ((W.take (i+1)).any (a4P S0.1 0)),.bool ((W.take (i+1)).any (a4P S0.1 1)),.bool ((W.take (i+1)).any (a4P S0.1 2))],.blk g10 46 S0.1.cells,.blk g4 72 [vc,ci f.op,ci f.n,sf]])) (p:=(fun bk=>bk=((W.take (i+1)).any (a4P S0.1 3)))) ?_ ?_
         ·refine go 1 ?_;refine o_v rfl (a2c he rfl rfl 0 rfl (by omega)) ?_;refine go 2 ?_;refine sxb 101 rfl (fun h101 p101=>?_) (fun h101 p101=>?_)
          ·refine go 8 ?_;refine o_v rfl (a2c he rfl rfl 0 rfl (by omega)) ?_;refine go 1 ?_;refine a0f ?_;refine a2k he rfl rfl rfl rfl ?_;refine go 2 ?_;refine a0A ?_;refine a0A ?_;refine a0A ?_;refine a1c ?_;refine a0A ?_;exact a1O true (by rw[a3q hlt,h101];rfl) sb rfl rfl
          ·refine go 8 ?_;refine o_v rfl (a2c he rfl rfl 0 rfl (by omega)) ?_;refine go 1 ?_;refine a0f ?_;refine a2k he rfl rfl rfl rfl ?_;refine go 2 ?_;refine a0A ?_;refine a0A ?_;refine a0A ?_;refine a1c ?_;refine a0A ?_;exact a1O (decide (W[i].km.high=S0.1.km.high)) (by rw[a3q hlt,h101];rfl) sb rfl rfl
         ·intro bk hbk;subst hbk;refine go 1 ?_;refine a4z (α:=Bool) (Ix:=(fun bk=>I48)) (Lx:=(fun bk=>[(1,.slice A l.length c0),(2,.string p),(3,.int .i64 (day)),(4,.pointer (some ⟨g4,0,none⟩)),(9,.bool true),(10,.pointer (some ⟨g10,0,none⟩)),(12,.slice A12 W.length c12),(13,.pointer (some ⟨g13,0,none⟩)),(14,.pointer (some ⟨g14,0,none⟩)),(15,.int .i64 ((i:Nat):Int)),(16,.pointer (some ⟨g16,0,none⟩))])) (Hx:=(fun bk=>[.blk g16 46 W[i].cells,.blk g14 81 [.bool ((W.take (i+1)).any (a4P S0.1 3)),.bool bk,.bool ((W.take i).any (a4P S0.1 5))],.blk g13 81 [.bool ((W.take (i+1)).any (a4P S0.1 0)),.bool ((W.take (i+1)).any (a4P S0.1 1)),.bool ((W.take (i+1)).any (a4P S0.1 2))],.blk g10 46 S0.1.cells,.blk g4 72 [vc,ci f.op,ci f.n,sf]])) (p:=(fun bk=>bk=((W.take (i+1)).any (a4P S0.1 4)))) ?_ ?_
          ·refine go 1 ?_;refine o_v rfl (a2c he rfl rfl 1 rfl (by omega)) ?_;refine go 2 ?_;refine sxb 113 rfl (fun h113 p113=>?_) (fun h113 p113=>?_)
           ·refine go 8 ?_;refine o_v rfl (a2c he rfl rfl 1 rfl (by omega)) ?_;refine go 1 ?_;refine a0f ?_;refine a2k he rfl rfl rfl rfl ?_;refine go 2 ?_;refine a0A ?_;refine a0A ?_;refine a0A ?_;refine a1c ?_;refine a0A ?_;exact a1O true (by rw[a3q hlt,h113];rfl) sb rfl rfl
           ·refine go 8 ?_;refine o_v rfl (a2c he rfl rfl 1 rfl (by omega)) ?_;refine go 1 ?_;refine a0f ?_;refine a2k he rfl rfl rfl rfl ?_;refine go 2 ?_;refine a0A ?_;refine a0A ?_;refine a0A ?_;refine a1c ?_;refine a0A ?_;exact a1O (decide (W[i].cycles.high=S0.1.cycles.high)) (by rw[a3q hlt,h113];rfl) sb rfl rfl
          ·intro bk hbk;subst hbk;refine go 1 ?_;refine o_v rfl (a2c he rfl rfl 2 rfl (by omega)) ?_;refine go 2 ?_;refine sxb 125 rfl (fun h125 p125=>?_) (fun h125 p125=>?_)
           ·refine go 8 ?_;refine o_v rfl (a2c he rfl rfl 2 rfl (by omega)) ?_;refine go 1 ?_;refine a0f ?_;refine a2k he rfl rfl rfl rfl ?_;refine go 3 ?_;refine a0f ?_;refine a0b ?_;exact a1O true (by rw[a3q hlt,h125];rfl) sb rfl rfl
           ·refine go 8 ?_;refine o_v rfl (a2c he rfl rfl 2 rfl (by omega)) ?_;refine go 1 ?_;refine a0f ?_;refine a2k he rfl rfl rfl rfl ?_;refine go 3 ?_;refine a0f ?_;refine a0b ?_;exact a1O (decide (W[i].damage.high=S0.1.damage.high)) (by rw[a3q hlt,h125];rfl) sb rfl rfl
     ·intro bk hbk;subst hbk;refine go 6 ?_;exact a0J (i+1) (by omega) (by omega) rfl sb rfl
    ·obtain rfl:i=W.length:=by omega
     rw[List.take_length];refine go 11 ?_;refine a0H (a0E rfl rfl rfl (a0s rfl (OV.cast (u:=.bool true) (b5X rfl rfl) (congrArg Value.bool (decide_eq_true (by omega)))) ?_));refine go 6 ?_;refine sxb 145 rfl (fun h145 p145=>?_) (fun h145 p145=>?_)
     ·refine go 14 ?_;refine a0u rfl rfl ?_;exact a8X rfl
     ·have h6:=hh3 (by have h:=h145;simp at h;omega)
      refine go 2 ?_;refine a0E rfl rfl h145 (a0s rfl (a9e he he rfl rfl) ?_);refine a0H (a0E rfl rfl h145 (a0s rfl (OV.cast (u:=.bool true) (c2z T.eqg_81 he T.inf_4 T.cel_4 he he rfl rfl) (congrArg Value.bool (by rw[h6 0,h6 1,h6 2];rfl))) ?_));refine go 3 ?_;refine a0H (a0E rfl rfl rfl (a0s rfl (OV.cast (u:=.bool true) (c2z T.eqg_81 he T.inf_4 T.cel_4 he he rfl rfl) (congrArg Value.bool (by rw[h6 0,h6 1,h6 2,h6 3,h6 4,h6 5];rfl))) ?_));refine go 7 ?_;refine a0u rfl rfl ?_;exact a8X rfl
end Go.Proofs.YtdapmfkbpnjkmaaGreat
namespace Go.Proofs.YtdapmfkbpnjkmaaGreat
open Go Go.Sx
set_option linter.all false
theorem T.cel_168:Tryz.prog.cellsOf 168=3:=by kernel_rfl
theorem T.cel_170:Tryz.prog.cellsOf 170=3:=by kernel_rfl
theorem T.cel_24:Tryz.prog.cellsOf 24=1:=by kernel_rfl
theorem T.cel_44:Tryz.prog.cellsOf 44=2:=by kernel_rfl
theorem T.cel_64:Tryz.prog.cellsOf 64=2:=by kernel_rfl
theorem T.cel_70:Tryz.prog.cellsOf 70=3:=by kernel_rfl
theorem T.cel_72:Tryz.prog.cellsOf 72=4:=by kernel_rfl
theorem T.cel_9:Tryz.prog.cellsOf 9=1:=by kernel_rfl
theorem T.cel_94:Tryz.prog.cellsOf 94=6:=by kernel_rfl
theorem T.cel_96:Tryz.prog.cellsOf 96=14:=by kernel_rfl
instance T.fds_168:Has (a1o Tryz.prog 168) [(9,0,1),(4,1,1),(166,2,1)]:=⟨by kernel_rfl⟩
instance T.fds_170:Has (a1o Tryz.prog 170) [(9,0,1),(33,1,1),(3,2,1)]:=⟨by kernel_rfl⟩
instance T.fds_24:Has (a1o Tryz.prog 24) [(22,0,1)]:=⟨by kernel_rfl⟩
instance T.fds_44:Has (a1o Tryz.prog 44) [(3,0,1),(3,1,1)]:=⟨by kernel_rfl⟩
instance T.fds_64:Has (a1o Tryz.prog 64) [(62,0,1),(4,1,1)]:=⟨by kernel_rfl⟩
instance T.fds_70:Has (a1o Tryz.prog 70) [(3,0,1),(3,1,1),(68,2,1)]:=⟨by kernel_rfl⟩
instance T.fds_72:Has (a1o Tryz.prog 72) [(24,0,1),(70,1,3)]:=⟨by kernel_rfl⟩
instance T.fds_94:Has (a1o Tryz.prog 94) [(44,0,2),(44,2,2),(44,4,2)]:=⟨by kernel_rfl⟩
instance T.fds_96:Has (a1o Tryz.prog 96) [(3,0,1),(3,1,1),(9,2,1),(9,3,1),(9,4,1),(9,5,1),(9,6,1),(9,7,1),(94,8,6)]:=⟨by kernel_rfl⟩
namespace lawBoundHolds
open Go.ChangeShapes Go.WideShapes Go.ChangeAt Go.RowKit Go.ChangeMaps Go.MapKept
theorem own:ownKnob Tryz.prog.godebug=none:=by kernel_rfl
set_option maxRecDepth 100000 in
theorem lifted (os:Os) (started:os.Started) (H:Type) (enc:TypeId×Value→H) :
  ReturnsInHanded {} Tryz.checked os 10 .any (Rows.boundHoldsSpec.pre6 enc Tryz.prog Tryz.f10 Rows.boundHoldsRow.domain false) (Rows.boundHoldsSpec.post enc Tryz.prog Tryz.f10 false true false false):=by
 refine returnsInHanded_of_change (C:=Tryz.checked) own started (by kernel_rfl) Tryz.func10
  (ChangeSpec.witness6 (enc:=enc) (C:=Tryz.checked) false ⟨#[],#[.agg #[.slice none 0 0,.int .i64 0,.int .i64 0,.slice none 0 0],.slice none 0 0,.string ⟨#[]⟩,.int .i64 0],[]⟩ 8 (by kernel_rfl) (by kernel_rfl) (by kernel_rfl) (by kernel_rfl)) ?_
 intro W base args ds gs before hval0 hW hcnd _
 have hval:∀(j:Nat) t v,Tryz.f10.params[j]? = some t→args[j]? = some v→Value.okWide Tryz.prog W .any base t v:=hval0
 have hW':=hW
 obtain⟨p,q,hA0,hV,rfl,hfz,hnd⟩:=hW
 have hA:DataW.TrodAll enc Tryz.prog W 0 (fun _=>true) true Tryz.f10.params.toList args.toList ds p:=hA0
 rw[Tryz.params10]at hA hval
 obtain⟨v0,vs0,d0,ds0,p0,q0,hargs,rfl,rfl,h0,r0⟩:=trodAll_cons hA;obtain⟨v1,vs1,d1,ds1,p1,q1,rfl,rfl,rfl,h1,r1⟩:=trodAll_cons r0;obtain⟨v2,vs2,d2,ds2,p2,q2,rfl,rfl,rfl,h2,r2⟩:=trodAll_cons r1;obtain⟨v3,vs3,d3,ds3,p3,q3,rfl,rfl,rfl,h3,r3⟩:=trodAll_cons r2;obtain⟨rfl,rfl,rfl⟩:=trodAll_nil r3;obtain rfl:args=#[v0,v1,v2,v3]:=by cases args;simp_all
 obtain⟨rfl,rfl⟩:=trodVars_none hV;clear hA0 hval0;obtain⟨cs0,rfl,hz0⟩:=b1e T.fds_72.eq (hval 0 72 v0 rfl rfl);obtain⟨fu0,hf0⟩:=h0;obtain⟨x0,⟨vc0,sf0,e0,R0,F0⟩,G0⟩:=(a9U T.fds_72.eq T.cel_72 (b1j T.fds_24.eq T.cel_24 (a2l T.und_22.eq T.cel_168 rfl (b1h T.fds_168.eq T.cel_168 (a2v T.und_9.eq) (a6q T.und_4.eq) (a2l T.und_166.eq T.cel_170 rfl (b1i T.fds_170.eq T.cel_170 (a2v T.und_9.eq) (a2l T.und_33.eq T.cel_9 rfl (a2v T.und_9.eq)) (a4a T.und_3.eq)))))) (b1g T.fds_70.eq T.cel_70 T.und_68.eq T.und_3.eq)) enc W 0 _ true fu0 _ _ hf0;obtain rfl:cs0=#[vc0,ci x0.dam.op,ci x0.dam.n,sf0]:=Array.toList_inj.1 e0;obtain⟨s1,n1,c1,rfl⟩:=okWide_slice T.und_25.eq (hval 1 25 v1 rfl rfl);obtain⟨fu1,hf1⟩:=h1;obtain⟨l1,⟨u1,e1,R1⟩,G1⟩:=(a2l T.und_25.eq T.cel_64 rfl (b3N T.fds_64.eq T.cel_64 (a2l T.und_62.eq T.cel_96 rfl (b3L T.fds_96.eq T.cel_96 (a4a T.und_3.eq) (a2v T.und_9.eq) (b3O T.fds_94.eq T.cel_94 (b3M T.fds_44.eq T.cel_44 (a4a T.und_3.eq))))) (a6q T.und_4.eq))) enc W 0 _ true fu1 _ _ hf1
 cases e1
 obtain⟨a2,rfl,rfl,rfl,w2⟩:=open_string T.und_9.eq (hval 2 9 v2 rfl rfl) h2;obtain⟨a3,rfl,rfl,rfl,w3⟩:=open_int T.und_3.eq (hval 3 3 v3 rfl rfl) h3;exact b3v (s:=Rows.boundHoldsSpec) Tryz.call10 (c0V (Iw W) vc0 x0.kinds R0 G0.1 x0.dam sf0 F0 G0.2 _ l1 R1 G1 a2 w2 a3 w3) hW' (by kernel_rfl) (by kernel_rfl) rfl T.und_4.eq rfl rfl
end lawBoundHolds
end Go.Proofs.YtdapmfkbpnjkmaaGreat
