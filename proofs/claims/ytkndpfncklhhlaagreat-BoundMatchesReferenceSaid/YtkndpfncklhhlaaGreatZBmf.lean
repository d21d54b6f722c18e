
import Derived.Test.YtkndpfncklhhlaaGreatZBme
import Derived.Laws.Pointers
import Derived.Lib.Bytealg
import Derived.Shelf.SlSortCmp.NoneTotal
import Derived.Shelf.Sort.Plain
namespace Go.Proofs.YtkndpfncklhhlaaGreat
open Go Go.Sx Tryz
set_option linter.all false
set_option maxRecDepth 20000
set_option maxHeartbeats 4000000
theorem a4m (I:IMap) (x:Ivl) :
    FnV prog 36 #[.agg x.cells.toArray] I (.bool (a1D x)):=by
 refine enter func36 call36 rfl ntmps36 rfl fun w0=>?_;refine go 4 fun g1=>?_
 refine gS 11 8 (fun h8 p8=>?_) fun h8 p8=>?_
 ·refine gS 5 13 (fun h13 p13=>?_) fun h13 p13=>?_
  ·refine go 9 ?_;exact q_v (congrArg Value.bool (by simp only[a1D,h8,h13,bS]))
  ·refine go 9 ?_;exact q_v (congrArg Value.bool (by simp only[a1D,h8,h13,bS]))
 ·refine go 14 ?_;exact q_v (congrArg Value.bool (by simp only[a1D,h8,bS]))
theorem b7l (I:IMap) (n:Int) :
    FnV prog 197 #[.int .i64 (n)] I (.int .i64 (a5N n)):=by
 refine enter func197 call197 rfl ntmps197 rfl fun w0=>?_;refine go 8 ?_;refine o_v rfl (OV.cast (u:=.int .i64 (min n (1000000000000:Int))) (a3x rfl rfl) (congrArg (Value.int .i64) oM)) ?_;refine o_v rfl (OV.cast (u:=.int .i64 (a5N n)) (a2a rfl rfl) (congrArg (Value.int .i64) (by unfold a5N;omega))) ?_;refine go 5 ?_;exact q_v rfl
theorem a8Y (I:IMap) (a b:Int) (ha : -(1000000000000:Int)≤a∧a≤(1000000000000:Int)) (hb : -(1000000000000:Int)≤b∧b≤(1000000000000:Int)) :
    FnV prog 253 #[.int .i64 (a),.int .i64 (b)] I (.int .i64 (a5N (a * b))):=by
 refine enter func253 call253 rfl ntmps253 rfl fun w0=>?_;refine go 7 ?_;refine a1h (I':=I) (L':=[(0,.int .i64 (a)),(1,.int .i64 (b)),(13,.bool (decide (a=0)||decide (b=0)))]) (H':=[]) ?_ ?_
 ·refine gS 4 10 (fun h10 p10=>?_) fun h10 p10=>?_
  ·refine go 5 ?_;exact a0h ⟨rfl,rfl,(bB (by simp only[h10,bS])),trivial⟩ rfl rfl
  ·refine go 5 ?_;exact a0h ⟨rfl,rfl,(bB (by simp only[h10,bS])),trivial⟩ rfl rfl
 ·refine gC 0 (fun h13 p13=>?_) fun h13 p13=>?_
  ·refine go 8 ?_;exact q_v (congrArg (Value.int .i64) (by rw[←b0n ha hb,c9V h13]))
  ·obtain⟨hxp,hyp⟩:=c5Q h13;have hq:=d2m hyp;obtain⟨x,hx⟩:∃x,max a (0-a)=x:=⟨_,rfl⟩;obtain⟨y,hy⟩:∃y,max b (0-b)=y:=⟨_,rfl⟩;rw[hx]at hxp
   rw[hy]at hyp hq
   have hxy:=c7q hxp hyp;refine go 7 ?_;refine o_v rfl (OV.cast (u:=.int .i64 (x)) (a2a rfl rfl) (congrArg (Value.int .i64) oM)) ?_;refine go 8 ?_;refine o_v rfl (OV.cast (u:=.int .i64 (y)) (a2a rfl rfl) (congrArg (Value.int .i64) oM)) ?_;refine go 9 ?_;refine a1h (I':=I) (L':=[(0,.int .i64 (a)),(1,.int .i64 (b)),(7,.int .i64 (c3q x y))]) (H':=[]) ?_ ?_
   ·refine go 4 ?_;refine o_v rfl (d0k rfl rfl oM ⟨oM,oM⟩) ?_;refine gC 3 (fun h25 p25=>?_) fun h25 p25=>?_
    ·have ham:=c6v hxp hyp p25;refine go 3 ?_;refine o_v rfl (b2E rfl rfl ⟨oM,oM⟩) ?_;refine go 3 ?_;exact a0h ⟨rfl,rfl,(congrArg (fun z=>some (Value.int .i64 z)) (by unfold c3q;first|rw[if_pos p25] | rw[if_neg p25])),trivial⟩ rfl rfl
    ·refine go 2 ?_;exact a0h ⟨rfl,rfl,(congrArg (fun z=>some (Value.int .i64 z)) (by unfold c3q;first|rw[if_pos p25] | rw[if_neg p25])),trivial⟩ rfl rfl
   ·refine go 7 ?_;refine o_v rfl (b0p he rfl rfl) ?_;refine gC 2 (fun h33 p33=>?_) fun h33 p33=>?_
    ·refine go 10 ?_;exact q_v (congrArg (Value.int .i64) (by rw[←b0n ha hb,←c9T h13 h33,hx,hy]))
    ·refine go 10 ?_;exact q_v (congrArg (Value.int .i64) (by rw[←b0n ha hb,←c9U h13 h33,hx,hy]))
theorem b0b (I:IMap) (a b:Ivl) :
    FnV prog 160 #[.agg a.cells.toArray,.agg b.cells.toArray] I (.agg (b5R a b).cells.toArray):=by
 refine enter func160 call160 rfl ntmps160 rfl fun w0=>?_;refine go 4 fun g2=>?_
 refine go 2 fun g3=>?_
 refine go 2 fun g4=>?_
 refine go 4 ?_;refine a1h (I':=I) (L':=[(2,.pointer (some ⟨g2,0,none⟩)),(3,.pointer (some ⟨g3,0,none⟩)),(4,.pointer (some ⟨g4,0,none⟩)),(12,.bool (!a1D a || !a1D b))]) (H':=[.blk g2 34 a.cells,.blk g3 34 b.cells,.blk g4 34 [.int .i64 (0),.int .i64 (0)]]) ?_ ?_
 ·refine go 3 ?_;refine cV (a4m _ a) ?_;refine gS 2 8 (fun h8 p8=>?_) fun h8 p8=>?_
  ·refine go 6 ?_;refine a0b ?_;refine a0c ?_;exact a0h ⟨rfl,rfl,rfl,(bB (by simp only[h8,bS])),trivial⟩ rfl rfl
  ·refine go 2 ?_;refine a0z rfl rfl h8 (a0x (a4m _ b) rfl rfl ?_);refine go 4 ?_;refine a0b ?_;refine a0c ?_;exact a0h ⟨rfl,rfl,rfl,(bB (by simp only[h8,bS])),trivial⟩ rfl rfl
 ·refine gC 0 (fun h12 p12=>?_) fun h12 p12=>?_
  ·refine go 4 ?_;refine a0c ?_;refine go 6 ?_;exact q_v (by unfold b5R;rw[b1J h12];rfl)
  ·obtain⟨⟨ha1,ha2⟩,hb1,hb2⟩:=a9o h12;obtain⟨hoa,hob⟩:a1D a=true∧a1D b=true:=by simpa using h12
   refine go 3 ?_;refine a0c ?_;refine ds1 ?_;refine dG 0 5 ?_;refine dG 6 5 ?_;refine dH 5 0 ?_;refine cV (b7l _ (a.low+b.low)) ?_;refine dH 11 0 ?_;refine cV (b7l _ (a.high+b.high)) ?_;refine dH 12 1 ?_;refine go 6 ?_;exact q_v (by rw[b9v hoa hob];rfl)
theorem b7m (I:IMap) (a b:Ivl) :
    FnV prog 235 #[.agg a.cells.toArray,.agg b.cells.toArray] I (.agg (c9J a b).cells.toArray):=by
 refine enter func235 call235 rfl ntmps235 rfl fun w0=>?_;refine go 4 fun g2=>?_
 refine go 2 fun g3=>?_
 refine go 2 fun g4=>?_
 refine go 4 ?_;refine a1h (I':=I) (L':=[(2,.pointer (some ⟨g2,0,none⟩)),(3,.pointer (some ⟨g3,0,none⟩)),(4,.pointer (some ⟨g4,0,none⟩)),(12,.bool (!a1D a || !a1D b))]) (H':=[.blk g2 34 a.cells,.blk g3 34 b.cells,.blk g4 34 [.int .i64 (0),.int .i64 (0)]]) ?_ ?_
 ·refine go 3 ?_;refine cV (a4m _ a) ?_;refine gS 2 8 (fun h8 p8=>?_) fun h8 p8=>?_
  ·refine go 6 ?_;refine a0b ?_;refine a0c ?_;exact a0h ⟨rfl,rfl,rfl,(bB (by simp only[h8,bS])),trivial⟩ rfl rfl
  ·refine go 2 ?_;refine a0z rfl rfl h8 (a0x (a4m _ b) rfl rfl ?_);refine go 4 ?_;refine a0b ?_;refine a0c ?_;exact a0h ⟨rfl,rfl,rfl,(bB (by simp only[h8,bS])),trivial⟩ rfl rfl
 ·refine gC 0 (fun h12 p12=>?_) fun h12 p12=>?_
  ·refine go 4 ?_;refine a0c ?_;refine go 6 ?_;exact q_v (by unfold c9J;rw[b1J h12];rfl)
  ·obtain⟨⟨ha1,ha2⟩,hb1,hb2⟩:=a9o h12;obtain⟨hoa,hob⟩:a1D a=true∧a1D b=true:=by simpa using h12
   refine go 3 ?_;refine a0c ?_;refine ds1 ?_;refine dG 0 5 ?_;refine dG 6 5 ?_;refine dH 5 0 ?_;refine cV (b7l _ (a.low-b.high)) ?_;refine dH 11 0 ?_;refine cV (b7l _ (a.high-b.low)) ?_;refine dH 12 1 ?_;refine go 6 ?_;exact q_v (by rw[c9K hoa hob];rfl)
theorem b7k (I:IMap) (a b:Ivl) :
    FnV prog 236 #[.agg a.cells.toArray,.agg b.cells.toArray] I (.agg (d0u a b).cells.toArray):=by
 refine enter func236 call236 rfl ntmps236 rfl fun w0=>?_;refine go 4 fun g2=>?_
 refine go 2 fun g3=>?_
 refine go 2 fun g4=>?_
 refine go 4 ?_;refine a1h (I':=I) (L':=[(2,.pointer (some ⟨g2,0,none⟩)),(3,.pointer (some ⟨g3,0,none⟩)),(4,.pointer (some ⟨g4,0,none⟩)),(16,.bool (!a1D a || !a1D b))]) (H':=[.blk g2 34 a.cells,.blk g3 34 b.cells,.blk g4 34 [.int .i64 (0),.int .i64 (0)]]) ?_ ?_
 ·refine go 3 ?_;refine cV (a4m _ a) ?_;refine gS 2 12 (fun h12 p12=>?_) fun h12 p12=>?_
  ·refine go 6 ?_;refine a0b ?_;refine a0c ?_;exact a0h ⟨rfl,rfl,rfl,(bB (by simp only[h12,bS])),trivial⟩ rfl rfl
  ·refine go 2 ?_;refine a0z rfl rfl h12 (a0x (a4m _ b) rfl rfl ?_);refine go 4 ?_;refine a0b ?_;refine a0c ?_;exact a0h ⟨rfl,rfl,rfl,(bB (by simp only[h12,bS])),trivial⟩ rfl rfl
 ·refine gC 0 (fun h16 p16=>?_) fun h16 p16=>?_
  ·refine go 4 ?_;refine a0c ?_;refine go 6 ?_;exact q_v (by unfold d0u;rw[b1J h16];rfl)
  ·obtain⟨⟨ha1,ha2⟩,hb1,hb2⟩:=a9o h16;obtain⟨hoa,hob⟩:a1D a=true∧a1D b=true:=by simpa using h16
   refine go 9 ?_;refine cV (a8Y _ a.low b.low ha1 hb1) ?_;refine go 10 ?_;refine cV (a8Y _ a.low b.high ha1 hb2) ?_;refine go 10 ?_;refine cV (a8Y _ a.high b.low ha2 hb1) ?_;refine go 10 ?_;refine cV (a8Y _ a.high b.high ha2 hb2) ?_;refine go 9 ?_;refine o_v rfl (OV.cast (u:=.int .i64 (min (min (min (a5N (a.low * b.low)) (a5N (a.low * b.high))) (a5N (a.high * b.low))) (a5N (a.high * b.high)))) (d0g rfl rfl rfl rfl) (congrArg (Value.int .i64) oM)) ?_;refine go 4 ?_;refine o_v rfl (OV.cast (u:=.int .i64 (max (max (max (a5N (a.low * b.low)) (a5N (a.low * b.high))) (a5N (a.high * b.low))) (a5N (a.high * b.high)))) (d0f rfl rfl rfl rfl) (congrArg (Value.int .i64) oM)) ?_;refine go 2 ?_;refine a0c ?_;refine go 5 ?_;exact q_v (by unfold d0u a8y;rw[if_neg (b6L hoa hob)];rfl)
theorem a0E (I:IMap) (a b:Ivl) :
    FnV prog 16 #[.agg a.cells.toArray,.agg b.cells.toArray] I (.agg (a2y a b).cells.toArray):=by
 refine enter func16 call16 rfl ntmps16 rfl fun w0=>?_;refine go 4 fun g2=>?_
 refine go 2 fun g3=>?_
 refine go 2 fun g4=>?_
 refine go 4 ?_;refine a1h (I':=I) (L':=[(2,.pointer (some ⟨g2,0,none⟩)),(3,.pointer (some ⟨g3,0,none⟩)),(4,.pointer (some ⟨g4,0,none⟩)),(12,.bool (!a1D a || !a1D b))]) (H':=[.blk g2 34 a.cells,.blk g3 34 b.cells,.blk g4 34 [.int .i64 (0),.int .i64 (0)]]) ?_ ?_
 ·refine go 3 ?_;refine cV (a4m _ a) ?_;refine gS 2 8 (fun h8 p8=>?_) fun h8 p8=>?_
  ·refine go 6 ?_;refine a0b ?_;refine a0c ?_;exact a0h ⟨rfl,rfl,rfl,(bB (by simp only[h8,bS])),trivial⟩ rfl rfl
  ·refine go 2 ?_;refine a0z rfl rfl h8 (a0x (a4m _ b) rfl rfl ?_);refine go 4 ?_;refine a0b ?_;refine a0c ?_;exact a0h ⟨rfl,rfl,rfl,(bB (by simp only[h8,bS])),trivial⟩ rfl rfl
 ·refine gC 0 (fun h12 p12=>?_) fun h12 p12=>?_
  ·refine go 4 ?_;refine a0c ?_;refine go 6 ?_;exact q_v (by rw[c1f h12];rfl)
  ·obtain⟨⟨ha1,ha2⟩,hb1,hb2⟩:=a9o h12;obtain⟨hoa,hob⟩:a1D a=true∧a1D b=true:=by simpa using h12
   refine go 8 ?_;refine o_v rfl (OV.cast (u:=.int .i64 (min a.low b.low)) (a3x rfl rfl) (congrArg (Value.int .i64) oM)) ?_;refine go 4 ?_;refine o_v rfl (OV.cast (u:=.int .i64 (max a.high b.high)) (a2a rfl rfl) (congrArg (Value.int .i64) oM)) ?_;refine go 2 ?_;refine a0c ?_;refine go 5 ?_;exact q_v (by rw[b6u hoa hob];rfl)
theorem a6b (I:IMap) (x:Ivl) (n:Int) :
    FnV prog 238 #[.agg x.cells.toArray,.int .i64 (n)] I (.int .i64 (b0H x n)):=by
 refine enter func238 call238 rfl ntmps238 rfl fun w0=>?_;refine go 4 fun g2=>?_
 refine go 5 ?_;refine a1h (I':=I) (L':=[(1,.int .i64 (n)),(2,.pointer (some ⟨g2,0,none⟩)),(13,.bool (!a1D x||decide (x.high≤n)))]) (H':=[.blk g2 34 x.cells]) ?_ ?_
 ·refine go 3 ?_;refine cV (a4m _ x) ?_;refine gS 2 8 (fun h8 p8=>?_) fun h8 p8=>?_
  ·refine go 7 ?_;exact a0h ⟨rfl,rfl,(bB (by simp only[h8,bS])),trivial⟩ rfl rfl
  ·refine go 7 ?_;exact a0h ⟨rfl,rfl,(bB (by simp only[h8,bS])),trivial⟩ rfl rfl
 ·refine gC 0 (fun h13 p13=>?_) fun h13 p13=>?_
  ·refine go 8 ?_;exact q_v (congrArg (Value.int .i64) (by unfold b0H;rw[if_pos h13]))
  ·refine gC 11 (fun h17 p17=>?_) fun h17 p17=>?_
   ·refine go 8 ?_;exact q_v (congrArg (Value.int .i64) (by unfold b0H;rw[if_neg (by rw[h13];decide),if_pos p17]))
   ·refine go 9 ?_;exact q_v (congrArg (Value.int .i64) (by unfold b0H;rw[if_neg (by rw[h13];decide),if_neg p17]))
theorem c9h (I:IMap) (op:Int) :
    FnV prog 194 #[.int .i64 (op)] I (.int .i64 (b1Z op)):=by
 refine enter func194 call194 rfl ntmps194 rfl fun w0=>?_;refine go 7 ?_;refine a1h (I':=I) (L':=[(0,.int .i64 (op)),(8,.bool (decide (op≥1)&&decide (op≤4)))]) (H':=[]) ?_ ?_
 ·refine gS 4 5 (fun h5 p5=>?_) fun h5 p5=>?_
  ·refine go 5 ?_;exact a0h ⟨rfl,(bB (by simp only[h5,bS])),trivial⟩ rfl rfl
  ·refine go 5 ?_;exact a0h ⟨rfl,(bB (by simp only[h5,bS])),trivial⟩ rfl rfl
 ·refine gC 0 (fun h8 p8=>?_) fun h8 p8=>?_
  ·refine go 8 ?_;exact q_v (congrArg (Value.int .i64) ((if_pos h8).symm))
  ·refine go 4 ?_;refine a1h (I':=I) (L':=[(0,.int .i64 (op)),(14,.bool (decide (op≥5)&&decide (op≤10)))]) (H':=[]) ?_ ?_
   ·refine gS 4 11 (fun h11 p11=>?_) fun h11 p11=>?_
    ·refine go 5 ?_;exact a0h ⟨rfl,(bB (by simp only[h8,h11,bS])),trivial⟩ rfl rfl
    ·refine go 5 ?_;exact a0h ⟨rfl,(bB (by simp only[h8,h11,bS])),trivial⟩ rfl rfl
   ·refine gC 0 (fun h14 p14=>?_) fun h14 p14=>?_
    ·refine go 8 ?_;exact q_v (congrArg (Value.int .i64) (by unfold b1Z;rw[if_neg (by rw[h8];decide),if_pos h14]))
    ·refine gC 9 (fun h16 p16=>?_) fun h16 p16=>?_
     ·refine go 8 ?_;exact q_v (congrArg (Value.int .i64) (by unfold b1Z;rw[if_neg (by rw[h8];decide),if_neg (by rw[h14];decide),if_pos p16]))
     ·refine go 9 ?_;exact q_v (congrArg (Value.int .i64) (by unfold b1Z;rw[if_neg (by rw[h8];decide),if_neg (by rw[h14];decide),if_neg p16]))
theorem b5x (I:IMap) (N:Nat) (ih:∀(f:Fm),cntN f≤N→∀vs,FmRd I vs f→FnV prog 150 #[.agg vs.toArray] I (.bool (rightF f))) (f:Fm) (hN:cntN f≤N+1) (vs:List Value) (hr:FmRd I vs f) :
    FnV prog 150 #[.agg vs.toArray] I (.bool (rightF f)):=by
 obtain⟨s,rfl,hs⟩:=a2w hr;obtain⟨A,c0,rfl,hA,hc,hm⟩:=hs;refine enter func150 call150 rfl ntmps150 rfl fun w0=>?_;refine go 4 fun g1=>?_
 refine go 5 ?_;refine a1h (I':=I) (L':=[(1,.pointer (some ⟨g1,0,none⟩)),(30,.bool (c3r f))]) (H':=[.blk g1 27 [ci f.op,ci f.n,.slice A f.kids.length c0]]) ?_ ?_
 ·refine go 1 ?_;refine dH 0 5 ?_;refine cV (c9h _ f.op) ?_;refine dG 6 2 ?_;refine gS 0 11 (fun h11 p11=>?_) fun h11 p11=>?_
  ·refine dG 8 19 ?_;refine go 2 ?_;exact a0h ⟨rfl,(bB (by simp only[c3r,h11,bS])),trivial⟩ rfl rfl
  ·refine dG 8 5 ?_;refine gS 0 16 (fun h16 p16=>?_) fun h16 p16=>?_
   ·refine dG 13 14 ?_;refine go 2 ?_;exact a0h ⟨rfl,(bB (by simp only[c3r,h11,h16,bS])),trivial⟩ rfl rfl
   ·refine dG 13 5 ?_;refine gS 0 21 (fun h21 p21=>?_) fun h21 p21=>?_
    ·refine dG 18 9 ?_;refine go 2 ?_;exact a0h ⟨rfl,(bB (by simp only[c3r,h11,h16,h21,bS])),trivial⟩ rfl rfl
    ·refine dG 18 4 ?_;refine gS 0 25 (fun h25 p25=>?_) fun h25 p25=>?_
     ·refine dG 22 5 ?_;refine go 2 ?_;exact a0h ⟨rfl,(bB (by simp only[c3r,h11,h16,h21,h25,bS])),trivial⟩ rfl rfl
     ·refine dG 22 5 ?_;refine go 2 ?_;exact a0h ⟨rfl,(bB (by simp only[c3r,h11,h16,h21,h25,bS])),trivial⟩ rfl rfl
 ·refine gC 0 (fun h30 p30=>?_) fun h30 p30=>?_
  ·refine go 8 ?_;exact q_v (congrArg Value.bool (b9c h30).symm)
  ·refine go 9 ?_
   refine a0w (α:=Nat) 0 (fun i=>I)
    (fun i=>[(1,.pointer (some ⟨g1,0,none⟩)),(3,.int .i64 ((i:Nat):Int))])
    (fun i=>[.blk g1 27 [ci f.op,ci f.n,.slice A f.kids.length c0]])
    (fun i=>i≤f.kids.length∧a2m (fun _ k=>rightF k) f.kids i=true)
    (fun i=>f.kids.length-i) ⟨Nat.zero_le _,rfl⟩ rfl sb rfl ?_
   intro i ⟨hi,hn⟩;refine gC 10 (fun h35 p35=>?_) fun h35 p35=>?_
   ·have hlt:i<f.kids.length:=oM;refine go 9 ?_;obtain⟨b41,o41,w41,e41,c41,r41⟩:=RdA.at_ hA (i:=i) oM;replace r41:=a2w r41;obtain⟨s41,rfl,hs41⟩:=r41;refine go 3 ?_;refine cV (ih f.kids[i] (by have:=a1N (List.getElem_mem hlt);omega) _ (a1E hs41)) ?_;refine gC 3 (fun h44 p44=>?_) fun h44 p44=>?_
    ·refine go 12 ?_;exact q_v (congrArg Value.bool (b3V hlt (by simpa using h44)).symm)
    ·refine go 9 ?_;exact a0s (i+1) ⟨oM,a0T (f:=fun _ k=>rightF k) hn hlt (by simpa using h44)⟩ oM rfl sb rfl
   ·refine go 12 ?_;have e:i=f.kids.length:=oM;subst e;exact q_v (congrArg Value.bool (b9b h30 hn).symm)
theorem d2p (I:IMap) (f:Fm) (vs:List Value) (hr:FmRd I vs f):FnV prog 150 #[.agg vs.toArray] I (.bool (rightF f)):=by
 have key:∀(N:Nat) (f:Fm),cntN f≤N→∀vs,FmRd I vs f→FnV prog 150 #[.agg vs.toArray] I (.bool (rightF f)):=by
  intro N
  induction N with
  |zero=>intro f hN;exact absurd hN (by cases f;simp[cntN])
  |succ N ih=>intro f hN vs hr;exact b5x I N ih f hN vs hr
 exact key (cntN f) f (Nat.le_refl _) vs hr
theorem b7n (I:IMap) (f:Fm) (vs:List Value) (hr:FmRd I vs f) :
    FnV prog 95 #[.agg vs.toArray] I (.bool (a1p f)):=by
 have hl:=Enc.len (α:=Fm) hr;refine enter func95 call95 rfl ntmps95 rfl fun w0=>?_;refine go 4 fun g1=>?_
 refine go 5 ?_;refine o_v rfl (a4n m0 he rfl hl) ?_;refine go 1 ?_;refine cV (b1k _ f _ hr 60 oM oM) ?_;refine gS 2 6 (fun h6 p6=>?_) fun h6 p6=>?_
 ·refine a0P (a0z rfl rfl h6 (a0k rfl (a4n m0 he rfl hl) ?_));refine go 1 ?_;refine a0z rfl rfl h6 (a0x (d2p _ f _ hr) rfl rfl ?_);refine go 6 ?_;exact q_v (congrArg Value.bool (by simp only[a1p,h6,bS]))
 ·refine go 8 ?_;exact q_v (congrArg Value.bool (by simp only[a1p,h6,bS]))
theorem b5y (I:IMap) (x:Ivl) :
    FnV prog 234 #[.agg x.cells.toArray] I (.bool (a6C x)):=by
 refine enter func234 call234 rfl ntmps234 rfl fun w0=>?_;refine go 4 fun g1=>?_
 refine gS 9 6 (fun h6 p6=>?_) fun h6 p6=>?_
 ·refine gS 7 13 (fun h13 p13=>?_) fun h13 p13=>?_
  ·refine go 9 ?_;exact q_v (congrArg Value.bool (by rw[c2Q];simp only[h6,h13,bS]))
  ·refine go 9 ?_;exact q_v (congrArg Value.bool (by rw[c2Q];simp only[h6,h13,bS]))
 ·refine go 16 ?_;exact q_v (congrArg Value.bool (by rw[c2Q];simp only[h6,bS]))
theorem d2o (I:IMap) (u:Use) :
    FnV prog 198 #[.agg u.cells.toArray] I (.bool (a4E u)):=by
 refine enter func198 call198 rfl ntmps198 rfl fun w0=>?_;refine go 4 fun g1=>?_
 refine go 6 ?_;refine o_v rfl (a0J (u.km.cells) m0 he rfl rfl rfl) ?_;refine go 1 ?_;refine cV (b5y _ u.km) ?_;refine gS 1 6 (fun h6 p6=>?_) fun h6 p6=>?_
 ·refine go 1 ?_;refine a0P (a0z rfl rfl h6 (a0k rfl (a0J (u.cycles.cells) m0 he rfl rfl rfl) ?_));refine go 1 ?_;refine a0z rfl rfl h6 (a0x (b5y _ u.cycles) rfl rfl ?_);refine gS 2 11 (fun h11 p11=>?_) fun h11 p11=>?_
  ·refine go 1 ?_;refine a0P (a0z rfl rfl h11 (a0k rfl (a0J (u.load.cells) m0 he rfl rfl rfl) ?_));refine go 1 ?_;refine a0z rfl rfl h11 (a0x (b5y _ u.load) rfl rfl ?_);refine go 6 ?_;exact q_v (congrArg Value.bool (by simp only[a4E,h6,h11,bS]))
  ·refine go 9 ?_;exact q_v (congrArg Value.bool (by simp only[a4E,h6,h11,bS]))
 ·refine go 14 ?_;exact q_v (congrArg Value.bool (by simp only[a4E,h6,bS]))
theorem c6R (I:IMap) (a b:Int) (ha : -(1000000000000:Int)≤a∧a≤(1000000000000:Int)) :
    FnV prog 254 #[.int .i64 (a),.int .i64 (b)] I (.int .i64 (a2O a b)):=by
 refine enter func254 call254 rfl ntmps254 rfl fun w0=>?_;refine gC 12 (fun h7 p7=>?_) fun h7 p7=>?_
 ·refine go 8 ?_;exact q_v (congrArg (Value.int .i64) ((c0E p7).symm))
 ·have htd:=c2M (a:=a) (b:=b);refine go 6 ?_;refine o_v rfl (d0k rfl rfl p7 ⟨oM,oM⟩) ?_;refine go 5 ?_;refine a1h (I':=I) (L':=[(5,.int .i64 (a.tdiv b)),(21,.bool (a6H a b))]) (H':=[]) ?_ ?_
  ·refine go 3 ?_;refine o_v rfl (d2O rfl rfl p7) ?_;refine gS 2 15 (fun h15 p15=>?_) fun h15 p15=>?_
   ·refine go 4 ?_;refine a0P (a0z rfl rfl h15 (a0k rfl (b0p he rfl rfl) ?_));refine go 3 ?_;exact a0h ⟨rfl,(bB (by rw[c6H p7];simp only[h7,h15,bS])),trivial⟩ rfl rfl
   ·refine go 8 ?_;exact a0h ⟨rfl,(bB (by rw[c6H p7];simp only[h7,h15,bS])),trivial⟩ rfl rfl
  ·refine gC 0 (fun h21 p21=>?_) fun h21 p21=>?_
   ·refine go 14 ?_;exact q_v (congrArg (Value.int .i64) (c0D p7 h21))
   ·refine go 10 ?_;exact q_v (congrArg (Value.int .i64) (c0C p7 h21))
theorem b2s (I:IMap) (a b:Ivl) (ha:a1D a=true) (hb:a1D b=true) :
    FnV prog 237 #[.agg a.cells.toArray,.agg b.cells.toArray] I (.agg (c0e a b).cells.toArray):=by
 refine enter func237 call237 rfl ntmps237 rfl fun w0=>?_;refine go 4 fun g2=>?_
 refine go 2 fun g3=>?_
 refine go 2 fun g4=>?_
 refine go 7 fun g5=>?_
 refine go 5 ?_;refine a1h (I':=I) (L':=[(2,.pointer (some ⟨g2,0,none⟩)),(3,.pointer (some ⟨g3,0,none⟩)),(4,.pointer (some ⟨g4,0,none⟩)),(5,.pointer (some ⟨g5,0,none⟩)),(6,.bool (decide (b.low≤0)&&decide (b.high≥0)))]) (H':=[.blk g5 34 [.int .i64 (0),.int .i64 (0)],.blk g4 34 [.int .i64 (0),.int .i64 (0)],.blk g3 34 b.cells,.blk g2 34 a.cells]) ?_ ?_
 ·refine gS 5 16 (fun h16 p16=>?_) fun h16 p16=>?_
  ·refine go 7 ?_;exact a0h ⟨rfl,rfl,rfl,rfl,(bB (by simp only[h16,bS])),trivial⟩ rfl rfl
  ·refine go 7 ?_;exact a0h ⟨rfl,rfl,rfl,rfl,(bB (by simp only[h16,bS])),trivial⟩ rfl rfl
 ·refine go 4 ?_;refine o_v rfl (OV.cast (u:=.int .i64 (max b.low 1)) (a2a rfl rfl) (congrArg (Value.int .i64) oM)) ?_;refine go 6 ?_;refine o_v rfl (OV.cast (u:=.int .i64 (min b.high (-1))) (a3x rfl rfl) (congrArg (Value.int .i64) oM)) ?_;refine go 2 fun v31=>?_
  refine a0d (l:=(dsR b)) rfl rfl ((a6p [max b.low 1,b.high,b.low,min b.high (-1)])) fun I31 j31 R31=>?_;obtain⟨A31,c31,rfl,hA31,_,_⟩:=R31;refine go 10 ?_
  refine a2B ((0:Nat)) (a3n) (_) (fun i z t=>I31)
   (fun i z t=>[(2,.pointer (some ⟨g2,0,none⟩)),(3,.pointer (some ⟨g3,0,none⟩)),(4,.pointer (some ⟨g4,0,none⟩)),(5,.pointer (some ⟨g5,0,none⟩)),(7,.slice A31 (dsR b).length c31),(6,.bool t),(8,.int .i64 ((i:Nat):Int))])
   (fun i z t=>[.blk g5 34 z.cells,.blk g4 34 [.int .i64 (0),.int .i64 (0)],.blk g3 34 b.cells,.blk g2 34 a.cells])
   (fun i z t=>i≤4∧qSt a b i=(z,t))
   (fun i z t=>4-i) ⟨oM,rfl⟩ rfl sb rfl ?_
  intro i z t ⟨hi,hz⟩;refine gC 9 (fun h35 p35=>?_) fun h35 p35=>?_
  ·have hl4:i<4:=by simp[dsR]at p35;omega
   have hlt:i<(dsR b).length:=hl4;have hai:=a0V.1 ha;obtain⟨d,hd⟩:∃d,(dsR b)[i]=d:=⟨_,rfl⟩;refine go 5 ?_;refine a3O (α:=Unit) (Ix:=(fun u=>I31)) (Lx:=(fun u=>[(2,.pointer (some ⟨g2,0,none⟩)),(3,.pointer (some ⟨g3,0,none⟩)),(4,.pointer (some ⟨g4,0,none⟩)),(5,.pointer (some ⟨g5,0,none⟩)),(7,.slice A31 (dsR b).length c31),(6,.bool t),(8,.int .i64 ((i:Nat):Int))])) (Hx:=(fun u=>[.blk g5 34 z.cells,.blk g4 34 [.int .i64 (0),.int .i64 (0)],.blk g3 34 b.cells,.blk g2 34 a.cells])) (p:=(fun u=>(decide (d<b.low)||decide (d>b.high)||decide (d=0))=false)) ?_ ?_
   ·refine go 2 ?_;refine dG 0 2 ?_;obtain⟨b40,o40,w40,e40,c40,r40⟩:=RdA.at_ hA31 (i:=i) oM;obtain rfl:=r40;refine dG 2 1 ?_;refine a0F 3 rfl rfl (by kernel_rfl) rfl (.refl _) rfl (OV.cast (u:=.int .i64 (d)) (a1X he rfl (c40 0 _ rfl)) (congrArg (Value.int .i64) hd)) ?_;refine dG 4 4 ?_;refine gS 0 45 (fun h45 p45=>?_) fun h45 p45=>?_
    ·refine dG 8 15 ?_;refine go 13 ?_;exact a1r (i+1) (z) (t) ⟨oM,by rw[a7D hlt hd,b0a (by simp only[h35,h45,bS]),hz]⟩ oM rfl sb rfl
    ·refine dG 8 2 ?_;obtain⟨b48,o48,w48,e48,c48,r48⟩:=RdA.at_ hA31 (i:=i) oM;obtain rfl:=r48;refine dG 10 1 ?_;refine d_t 11 rfl rfl (by kernel_rfl) rfl (fun _ m=>m.keeps (.refl _)) (a2L rfl rfl h45 (OV.cast (u:=.int .i64 (d)) (a1X he rfl (c48 0 _ rfl)) (congrArg (Value.int .i64) hd))) ?_;refine dG 12 5 ?_;refine gS 0 54 (fun h54 p54=>?_) fun h54 p54=>?_
     ·refine dG 17 6 ?_;refine go 13 ?_;exact a1r (i+1) (z) (t) ⟨oM,by rw[a7D hlt hd,b0a (by simp only[h35,h45,h54,bS]),hz]⟩ oM rfl sb rfl
     ·refine dG 17 2 ?_;obtain⟨b57,o57,w57,e57,c57,r57⟩:=RdA.at_ hA31 (i:=i) oM;obtain rfl:=r57;refine dG 19 1 ?_;refine d_t 20 rfl rfl (by kernel_rfl) rfl (fun _ m=>m.keeps (.refl _)) (a2L rfl rfl h54 (OV.cast (u:=.int .i64 (d)) (a1X he rfl (c57 0 _ rfl)) (congrArg (Value.int .i64) hd))) ?_;refine dG 21 2 ?_;refine gC 2 (fun h60 p60=>?_) fun h60 p60=>?_
      ·refine go 10 ?_;exact a1r (i+1) (z) (t) ⟨oM,by rw[a7D hlt hd,b0a (by simp only[h35,h45,h54,h60,bS]),hz]⟩ oM rfl sb rfl
      ·refine go 2 ?_;exact a1s () (by simp only[h35,h45,h54,h60,bS]) sb rfl rfl
   ·intro u h60;refine go 2 ?_;refine dG 0 4 ?_;obtain⟨b65,o65,w65,e65,c65,r65⟩:=RdA.at_ hA31 (i:=i) oM;obtain rfl:=r65;refine dG 4 1 ?_;refine a0F 5 rfl rfl (by kernel_rfl) rfl (.refl _) rfl (OV.cast (u:=.int .i64 (d)) (a1X he rfl (c65 0 _ rfl)) (congrArg (Value.int .i64) hd)) ?_;refine dH 6 0 ?_;refine cV (c6R _ a.low d oM) ?_;refine dG 7 1 ?_;refine go 4 ?_;refine dG 0 4 ?_;obtain⟨b72,o72,w72,e72,c72,r72⟩:=RdA.at_ hA31 (i:=i) oM;obtain rfl:=r72;refine dG 4 1 ?_;refine a0F 5 rfl rfl (by kernel_rfl) rfl (.refl _) rfl (OV.cast (u:=.int .i64 (d)) (a1X he rfl (c72 0 _ rfl)) (congrArg (Value.int .i64) hd)) ?_;refine dH 6 0 ?_;refine cV (c6R _ a.high d oM) ?_;refine dG 7 1 ?_;refine go 6 ?_;refine o_v rfl (OV.cast (u:=.int .i64 (min (a2O a.low d) (a2O a.high d))) (a3x rfl rfl) (congrArg (Value.int .i64) oM)) ?_;refine go 2 ?_;refine o_v rfl (OV.cast (u:=.int .i64 (max (a2O a.low d) (a2O a.high d))) (a2a rfl rfl) (congrArg (Value.int .i64) oM)) ?_;refine go 3 fun g11=>?_
    refine gC 10 (fun h82 p82=>?_) fun h82 p82=>?_
    ·refine go 4 ?_;refine cV (a0E _ (a6V a d) z) ?_;refine go 8 ?_;refine a0b ?_;refine go 14 ?_;refine a0b ?_;refine a0a ?_;exact a1r (i+1) (a2y (a6V a d) z) (true) ⟨oM,by rw[a7D hlt hd,hz,c5j h60 h82]⟩ oM rfl sb rfl
    ·refine go 6 ?_;refine a0b ?_;refine go 14 ?_;refine a0b ?_;refine a0a ?_;exact a1r (i+1) (a6V a d) (true) ⟨oM,by rw[a7D hlt hd,hz,c9g h60 h82]⟩ oM rfl sb rfl
  ·obtain rfl:i=4:=by simp[dsR]at p35;omega
   refine go 9 ?_;refine a0b ?_;refine go 5 ?_;have hqe:=c9d ha (a0V.1 hb).2.1;rw[hz]at hqe
   exact b5v (by rw[←hqe])
theorem b3L (I:IMap) (u:Use) (hu:a4E u=true) (N:Nat) (ih:∀(f:Fm),cntN f≤N→∀vs,FmRd I vs f→rightF f=true→FnV prog 199 #[.agg vs.toArray,.agg u.cells.toArray] I (.agg (a0U u f).cells.toArray)) (f:Fm) (hN:cntN f≤N+1) (vs:List Value) (hr:FmRd I vs f) (hR:rightF f=true) :
    FnV prog 199 #[.agg vs.toArray,.agg u.cells.toArray] I (.agg (a0U u f).cells.toArray):=by
 obtain⟨s,rfl,hs⟩:=a2w hr;obtain⟨A,c0,rfl,hA,hc,hm⟩:=hs;refine enter func199 call199 rfl ntmps199 rfl fun w0=>?_;refine go 4 fun g2=>?_
 refine go 2 fun g3=>?_
 refine go 2 fun g4=>?_
 refine gC 16 (fun h10 p10=>?_) fun h10 p10=>?_
 ·refine go 15 ?_;exact q_v (by rw[b7C hR p10];rfl)
 ·refine gC 6 (fun h17 p17=>?_) fun h17 p17=>?_
  ·refine go 3 ?_;refine o_v rfl (a0J (u.km.cells) m1 he rfl rfl rfl) ?_;refine go 8 ?_;exact q_v (by rw[c9F hR p10 p17])
  ·refine gC 6 (fun h21 p21=>?_) fun h21 p21=>?_
   ·refine go 3 ?_;refine o_v rfl (a0J (u.cycles.cells) m1 he rfl rfl rfl) ?_;refine go 8 ?_;exact q_v (by rw[c9G hR p10 p17 p21])
   ·refine gC 6 (fun h25 p25=>?_) fun h25 p25=>?_
    ·refine go 3 ?_;refine o_v rfl (a0J (u.load.cells) m1 he rfl rfl rfl) ?_;refine go 8 ?_;exact q_v (by rw[c9H hR p10 p17 p21 p25])
    ·have h4n:=d4F hR p10 p17 p21 p25;have h2l:=c2N hR h4n;refine go 5 ?_;refine dG 0 2 ?_;obtain⟨b31,o31,w31,e31,c31,r31⟩:=RdA.at_ hA (i:=0) oM;replace r31:=a2w r31;obtain⟨s31,rfl,hs31⟩:=r31;refine a0F 2 rfl rfl (by kernel_rfl) rfl (.refl _) rfl (a0i he rfl rfl e31 (0) rfl oM) ?_;refine dG 3 2 ?_;refine dT2 5 6 ?_ ?_
     ·refine cV (ih (f.kids[0]'oM) (by have:=a1N (List.getElem_mem (show 0<f.kids.length from oM));omega) _ (a1E hs31) (a0M hR 0 _)) ?_;refine dH 6 0 ?_;refine go 1 fun g5=>?_
      refine dH 7 0 ?_;refine go 6 ?_;refine dG 0 2 ?_;obtain⟨b37,o37,w37,e37,c37,r37⟩:=RdA.at_ hA (i:=1) oM;replace r37:=a2w r37;obtain⟨s37,rfl,hs37⟩:=r37;refine a0F 2 rfl rfl (by kernel_rfl) rfl (.refl _) rfl (a0i he rfl rfl e37 (1) rfl oM) ?_;refine dG 3 2 ?_;refine dT2 5 6 ?_ ?_
      ·refine cV (ih (f.kids[1]'oM) (by have:=a1N (List.getElem_mem (show 1<f.kids.length from oM));omega) _ (a1E hs37) (a0M hR 1 _)) ?_;refine dH 6 0 ?_;refine go 1 fun g6=>?_
       refine dH 7 0 ?_;refine gC 18 (fun h43 p43=>?_) fun h43 p43=>?_
       ·refine go 5 ?_;refine cV (b0b _ _ _) ?_;refine go 1 ?_;refine a0c ?_;refine go 7 ?_;exact q_v (by rw[a0Z hR h4n p43 (by decide)];rfl)
       ·refine gC 6 (fun h48 p48=>?_) fun h48 p48=>?_
        ·refine go 5 ?_;refine cV (b7m _ _ _) ?_;refine go 1 ?_;refine a0c ?_;refine go 7 ?_;exact q_v (by rw[a0Z hR h4n p48 (by decide)];rfl)
        ·refine gC 6 (fun h53 p53=>?_) fun h53 p53=>?_
         ·refine go 5 ?_;refine cV (b7k _ _ _) ?_;refine go 1 ?_;refine a0c ?_;refine go 7 ?_;exact q_v (by rw[a0Z hR h4n p53 (by decide)];rfl)
         ·refine gC 6 (fun h58 p58=>?_) fun h58 p58=>?_
          ·refine go 5 ?_;refine cV (b2s _ _ _ (a3l hu _ (a0M hR 0 oM)) (a3l hu _ (a0M hR 1 oM))) ?_;refine go 1 ?_;refine a0c ?_;refine go 7 ?_;exact q_v (by rw[a0Z hR h4n p58 (by decide)];rfl)
          ·refine gC 6 (fun h63 p63=>?_) fun h63 p63=>?_
           ·refine go 6 ?_;refine o_v rfl (OV.cast (u:=.int .i64 (min (a0U u f.kids[0]).low (a0U u f.kids[1]).low)) (a3x rfl rfl) (congrArg (Value.int .i64) oM)) ?_;refine go 4 ?_;refine o_v rfl (OV.cast (u:=.int .i64 (min (a0U u f.kids[0]).high (a0U u f.kids[1]).high)) (a3x rfl rfl) (congrArg (Value.int .i64) oM)) ?_;refine go 2 ?_;refine a0c ?_;refine go 7 ?_;exact q_v (by rw[a0Z hR h4n p63 (by decide)];rfl)
           ·refine gC 6 (fun h76 p76=>?_) fun h76 p76=>?_
            ·refine go 6 ?_;refine o_v rfl (OV.cast (u:=.int .i64 (max (a0U u f.kids[0]).low (a0U u f.kids[1]).low)) (a2a rfl rfl) (congrArg (Value.int .i64) oM)) ?_;refine go 4 ?_;refine o_v rfl (OV.cast (u:=.int .i64 (max (a0U u f.kids[0]).high (a0U u f.kids[1]).high)) (a2a rfl rfl) (congrArg (Value.int .i64) oM)) ?_;refine go 2 ?_;refine a0c ?_;refine go 7 ?_;exact q_v (by rw[a0Z hR h4n p76 (by decide)];rfl)
            ·have h3:=b8w hR (d3m hR h4n p43 p48 p53 p58 p63 p76);refine go 5 ?_;refine dG 0 2 ?_;obtain⟨b91,o91,w91,e91,c91,r91⟩:=RdA.at_ hA (i:=2) oM;replace r91:=a2w r91;obtain⟨s91,rfl,hs91⟩:=r91;refine a0F 2 rfl rfl (by kernel_rfl) rfl (.refl _) rfl (a0i he rfl rfl e91 (2) rfl oM) ?_;refine dG 3 2 ?_;refine dT2 5 6 ?_ ?_
             ·refine cV (ih (f.kids[2]'oM) (by have:=a1N (List.getElem_mem (show 2<f.kids.length from oM));omega) _ (a1E hs91) (a0M hR 2 _)) ?_;refine dH 6 0 ?_;refine go 1 fun g7=>?_
              refine dH 7 0 ?_;refine go 9 ?_;refine cV (a6b _ _ 0) ?_;refine gC 9 (fun h97 p97=>?_) fun h97 p97=>?_
              ·refine go 4 ?_;refine a0p ?_;refine go 7 ?_;exact q_v (by rw[a1F h3];unfold a1n;rw[if_pos p97])
              ·refine gC 6 (fun h100 p100=>?_) fun h100 p100=>?_
               ·refine go 4 ?_;refine a0p ?_;refine go 7 ?_;exact q_v (by rw[a1F h3];unfold a1n;rw[if_neg p97,if_pos p100])
               ·refine go 8 ?_;refine cV (a0E _ _ _) ?_;refine go 1 ?_;refine a0p ?_;refine go 5 ?_;exact q_v (by rw[a1F h3];unfold a1n;rw[if_neg p97,if_neg p100])
             ·refine go 1 fun g7=>?_
              refine dH 5 0 ?_;refine cV (ih (f.kids[2]'oM) (by have:=a1N (List.getElem_mem (show 2<f.kids.length from oM));omega) _ (a1E hs91) (a0M hR 2 _)) ?_;refine dH 7 0 ?_;refine go 9 ?_;refine cV (a6b _ _ 0) ?_;refine gC 9 (fun h97 p97=>?_) fun h97 p97=>?_
              ·refine go 4 ?_;refine a0p ?_;refine go 7 ?_;exact q_v (by rw[a1F h3];unfold a1n;rw[if_pos p97])
              ·refine gC 6 (fun h100 p100=>?_) fun h100 p100=>?_
               ·refine go 4 ?_;refine a0p ?_;refine go 7 ?_;exact q_v (by rw[a1F h3];unfold a1n;rw[if_neg p97,if_pos p100])
               ·refine go 8 ?_;refine cV (a0E _ _ _) ?_;refine go 1 ?_;refine a0p ?_;refine go 5 ?_;exact q_v (by rw[a1F h3];unfold a1n;rw[if_neg p97,if_neg p100])
      ·refine go 1 fun g6=>?_
       refine dH 5 0 ?_;refine cV (ih (f.kids[1]'oM) (by have:=a1N (List.getElem_mem (show 1<f.kids.length from oM));omega) _ (a1E hs37) (a0M hR 1 _)) ?_;refine dH 7 0 ?_;refine gC 18 (fun h43 p43=>?_) fun h43 p43=>?_
       ·refine go 5 ?_;refine cV (b0b _ _ _) ?_;refine go 1 ?_;refine a0c ?_;refine go 7 ?_;exact q_v (by rw[a0Z hR h4n p43 (by decide)];rfl)
       ·refine gC 6 (fun h48 p48=>?_) fun h48 p48=>?_
        ·refine go 5 ?_;refine cV (b7m _ _ _) ?_;refine go 1 ?_;refine a0c ?_;refine go 7 ?_;exact q_v (by rw[a0Z hR h4n p48 (by decide)];rfl)
        ·refine gC 6 (fun h53 p53=>?_) fun h53 p53=>?_
         ·refine go 5 ?_;refine cV (b7k _ _ _) ?_;refine go 1 ?_;refine a0c ?_;refine go 7 ?_;exact q_v (by rw[a0Z hR h4n p53 (by decide)];rfl)
         ·refine gC 6 (fun h58 p58=>?_) fun h58 p58=>?_
          ·refine go 5 ?_;refine cV (b2s _ _ _ (a3l hu _ (a0M hR 0 oM)) (a3l hu _ (a0M hR 1 oM))) ?_;refine go 1 ?_;refine a0c ?_;refine go 7 ?_;exact q_v (by rw[a0Z hR h4n p58 (by decide)];rfl)
          ·refine gC 6 (fun h63 p63=>?_) fun h63 p63=>?_
           ·refine go 6 ?_;refine o_v rfl (OV.cast (u:=.int .i64 (min (a0U u f.kids[0]).low (a0U u f.kids[1]).low)) (a3x rfl rfl) (congrArg (Value.int .i64) oM)) ?_;refine go 4 ?_;refine o_v rfl (OV.cast (u:=.int .i64 (min (a0U u f.kids[0]).high (a0U u f.kids[1]).high)) (a3x rfl rfl) (congrArg (Value.int .i64) oM)) ?_;refine go 2 ?_;refine a0c ?_;refine go 7 ?_;exact q_v (by rw[a0Z hR h4n p63 (by decide)];rfl)
           ·refine gC 6 (fun h76 p76=>?_) fun h76 p76=>?_
            ·refine go 6 ?_;refine o_v rfl (OV.cast (u:=.int .i64 (max (a0U u f.kids[0]).low (a0U u f.kids[1]).low)) (a2a rfl rfl) (congrArg (Value.int .i64) oM)) ?_;refine go 4 ?_;refine o_v rfl (OV.cast (u:=.int .i64 (max (a0U u f.kids[0]).high (a0U u f.kids[1]).high)) (a2a rfl rfl) (congrArg (Value.int .i64) oM)) ?_;refine go 2 ?_;refine a0c ?_;refine go 7 ?_;exact q_v (by rw[a0Z hR h4n p76 (by decide)];rfl)
            ·have h3:=b8w hR (d3m hR h4n p43 p48 p53 p58 p63 p76);refine go 5 ?_;refine dG 0 2 ?_;obtain⟨b91,o91,w91,e91,c91,r91⟩:=RdA.at_ hA (i:=2) oM;replace r91:=a2w r91;obtain⟨s91,rfl,hs91⟩:=r91;refine a0F 2 rfl rfl (by kernel_rfl) rfl (.refl _) rfl (a0i he rfl rfl e91 (2) rfl oM) ?_;refine dG 3 2 ?_;refine dT2 5 6 ?_ ?_
             ·refine cV (ih (f.kids[2]'oM) (by have:=a1N (List.getElem_mem (show 2<f.kids.length from oM));omega) _ (a1E hs91) (a0M hR 2 _)) ?_;refine dH 6 0 ?_;refine go 1 fun g7=>?_
              refine dH 7 0 ?_;refine go 9 ?_;refine cV (a6b _ _ 0) ?_;refine gC 9 (fun h97 p97=>?_) fun h97 p97=>?_
              ·refine go 4 ?_;refine a0p ?_;refine go 7 ?_;exact q_v (by rw[a1F h3];unfold a1n;rw[if_pos p97])
              ·refine gC 6 (fun h100 p100=>?_) fun h100 p100=>?_
               ·refine go 4 ?_;refine a0p ?_;refine go 7 ?_;exact q_v (by rw[a1F h3];unfold a1n;rw[if_neg p97,if_pos p100])
               ·refine go 8 ?_;refine cV (a0E _ _ _) ?_;refine go 1 ?_;refine a0p ?_;refine go 5 ?_;exact q_v (by rw[a1F h3];unfold a1n;rw[if_neg p97,if_neg p100])
             ·refine go 1 fun g7=>?_
              refine dH 5 0 ?_;refine cV (ih (f.kids[2]'oM) (by have:=a1N (List.getElem_mem (show 2<f.kids.length from oM));omega) _ (a1E hs91) (a0M hR 2 _)) ?_;refine dH 7 0 ?_;refine go 9 ?_;refine cV (a6b _ _ 0) ?_;refine gC 9 (fun h97 p97=>?_) fun h97 p97=>?_
              ·refine go 4 ?_;refine a0p ?_;refine go 7 ?_;exact q_v (by rw[a1F h3];unfold a1n;rw[if_pos p97])
              ·refine gC 6 (fun h100 p100=>?_) fun h100 p100=>?_
               ·refine go 4 ?_;refine a0p ?_;refine go 7 ?_;exact q_v (by rw[a1F h3];unfold a1n;rw[if_neg p97,if_pos p100])
               ·refine go 8 ?_;refine cV (a0E _ _ _) ?_;refine go 1 ?_;refine a0p ?_;refine go 5 ?_;exact q_v (by rw[a1F h3];unfold a1n;rw[if_neg p97,if_neg p100])
     ·refine go 1 fun g5=>?_
      refine dH 5 0 ?_;refine cV (ih (f.kids[0]'oM) (by have:=a1N (List.getElem_mem (show 0<f.kids.length from oM));omega) _ (a1E hs31) (a0M hR 0 _)) ?_;refine dH 7 0 ?_;refine go 6 ?_;refine dG 0 2 ?_;obtain⟨b37,o37,w37,e37,c37,r37⟩:=RdA.at_ hA (i:=1) oM;replace r37:=a2w r37;obtain⟨s37,rfl,hs37⟩:=r37;refine a0F 2 rfl rfl (by kernel_rfl) rfl (.refl _) rfl (a0i he rfl rfl e37 (1) rfl oM) ?_;refine dG 3 2 ?_;refine dT2 5 6 ?_ ?_
      ·refine cV (ih (f.kids[1]'oM) (by have:=a1N (List.getElem_mem (show 1<f.kids.length from oM));omega) _ (a1E hs37) (a0M hR 1 _)) ?_;refine dH 6 0 ?_;refine go 1 fun g6=>?_
       refine dH 7 0 ?_;refine gC 18 (fun h43 p43=>?_) fun h43 p43=>?_
       ·refine go 5 ?_;refine cV (b0b _ _ _) ?_;refine go 1 ?_;refine a0c ?_;refine go 7 ?_;exact q_v (by rw[a0Z hR h4n p43 (by decide)];rfl)
       ·refine gC 6 (fun h48 p48=>?_) fun h48 p48=>?_
        ·refine go 5 ?_;refine cV (b7m _ _ _) ?_;refine go 1 ?_;refine a0c ?_;refine go 7 ?_;exact q_v (by rw[a0Z hR h4n p48 (by decide)];rfl)
        ·refine gC 6 (fun h53 p53=>?_) fun h53 p53=>?_
         ·refine go 5 ?_;refine cV (b7k _ _ _) ?_;refine go 1 ?_;refine a0c ?_;refine go 7 ?_;exact q_v (by rw[a0Z hR h4n p53 (by decide)];rfl)
         ·refine gC 6 (fun h58 p58=>?_) fun h58 p58=>?_
          ·refine go 5 ?_;refine cV (b2s _ _ _ (a3l hu _ (a0M hR 0 oM)) (a3l hu _ (a0M hR 1 oM))) ?_;refine go 1 ?_;refine a0c ?_;refine go 7 ?_;exact q_v (by rw[a0Z hR h4n p58 (by decide)];rfl)
          ·refine gC 6 (fun h63 p63=>?_) fun h63 p63=>?_
           ·refine go 6 ?_;refine o_v rfl (OV.cast (u:=.int .i64 (min (a0U u f.kids[0]).low (a0U u f.kids[1]).low)) (a3x rfl rfl) (congrArg (Value.int .i64) oM)) ?_;refine go 4 ?_;refine o_v rfl (OV.cast (u:=.int .i64 (min (a0U u f.kids[0]).high (a0U u f.kids[1]).high)) (a3x rfl rfl) (congrArg (Value.int .i64) oM)) ?_;refine go 2 ?_;refine a0c ?_;refine go 7 ?_;exact q_v (by rw[a0Z hR h4n p63 (by decide)];rfl)
           ·refine gC 6 (fun h76 p76=>?_) fun h76 p76=>?_
            ·refine go 6 ?_;refine o_v rfl (OV.cast (u:=.int .i64 (max (a0U u f.kids[0]).low (a0U u f.kids[1]).low)) (a2a rfl rfl) (congrArg (Value.int .i64) oM)) ?_;refine go 4 ?_;refine o_v rfl (OV.cast (u:=.int .i64 (max (a0U u f.kids[0]).high (a0U u f.kids[1]).high)) (a2a rfl rfl) (congrArg (Value.int .i64) oM)) ?_;refine go 2 ?_;refine a0c ?_;refine go 7 ?_;exact q_v (by rw[a0Z hR h4n p76 (by decide)];rfl)
            ·have h3:=b8w hR (d3m hR h4n p43 p48 p53 p58 p63 p76);refine go 5 ?_;refine dG 0 2 ?_;obtain⟨b91,o91,w91,e91,c91,r91⟩:=RdA.at_ hA (i:=2) oM;replace r91:=a2w r91;obtain⟨s91,rfl,hs91⟩:=r91;refine a0F 2 rfl rfl (by kernel_rfl) rfl (.refl _) rfl (a0i he rfl rfl e91 (2) rfl oM) ?_;refine dG 3 2 ?_;refine dT2 5 6 ?_ ?_
             ·refine cV (ih (f.kids[2]'oM) (by have:=a1N (List.getElem_mem (show 2<f.kids.length from oM));omega) _ (a1E hs91) (a0M hR 2 _)) ?_;refine dH 6 0 ?_;refine go 1 fun g7=>?_
              refine dH 7 0 ?_;refine go 9 ?_;refine cV (a6b _ _ 0) ?_;refine gC 9 (fun h97 p97=>?_) fun h97 p97=>?_
              ·refine go 4 ?_;refine a0p ?_;refine go 7 ?_;exact q_v (by rw[a1F h3];unfold a1n;rw[if_pos p97])
              ·refine gC 6 (fun h100 p100=>?_) fun h100 p100=>?_
               ·refine go 4 ?_;refine a0p ?_;refine go 7 ?_;exact q_v (by rw[a1F h3];unfold a1n;rw[if_neg p97,if_pos p100])
               ·refine go 8 ?_;refine cV (a0E _ _ _) ?_;refine go 1 ?_;refine a0p ?_;refine go 5 ?_;exact q_v (by rw[a1F h3];unfold a1n;rw[if_neg p97,if_neg p100])
             ·refine go 1 fun g7=>?_
              refine dH 5 0 ?_;refine cV (ih (f.kids[2]'oM) (by have:=a1N (List.getElem_mem (show 2<f.kids.length from oM));omega) _ (a1E hs91) (a0M hR 2 _)) ?_;refine dH 7 0 ?_;refine go 9 ?_;refine cV (a6b _ _ 0) ?_;refine gC 9 (fun h97 p97=>?_) fun h97 p97=>?_
              ·refine go 4 ?_;refine a0p ?_;refine go 7 ?_;exact q_v (by rw[a1F h3];unfold a1n;rw[if_pos p97])
              ·refine gC 6 (fun h100 p100=>?_) fun h100 p100=>?_
               ·refine go 4 ?_;refine a0p ?_;refine go 7 ?_;exact q_v (by rw[a1F h3];unfold a1n;rw[if_neg p97,if_pos p100])
               ·refine go 8 ?_;refine cV (a0E _ _ _) ?_;refine go 1 ?_;refine a0p ?_;refine go 5 ?_;exact q_v (by rw[a1F h3];unfold a1n;rw[if_neg p97,if_neg p100])
      ·refine go 1 fun g6=>?_
       refine dH 5 0 ?_;refine cV (ih (f.kids[1]'oM) (by have:=a1N (List.getElem_mem (show 1<f.kids.length from oM));omega) _ (a1E hs37) (a0M hR 1 _)) ?_;refine dH 7 0 ?_;refine gC 18 (fun h43 p43=>?_) fun h43 p43=>?_
       ·refine go 5 ?_;refine cV (b0b _ _ _) ?_;refine go 1 ?_;refine a0c ?_;refine go 7 ?_;exact q_v (by rw[a0Z hR h4n p43 (by decide)];rfl)
       ·refine gC 6 (fun h48 p48=>?_) fun h48 p48=>?_
        ·refine go 5 ?_;refine cV (b7m _ _ _) ?_;refine go 1 ?_;refine a0c ?_;refine go 7 ?_;exact q_v (by rw[a0Z hR h4n p48 (by decide)];rfl)
        ·refine gC 6 (fun h53 p53=>?_) fun h53 p53=>?_
         ·refine go 5 ?_;refine cV (b7k _ _ _) ?_;refine go 1 ?_;refine a0c ?_;refine go 7 ?_;exact q_v (by rw[a0Z hR h4n p53 (by decide)];rfl)
         ·refine gC 6 (fun h58 p58=>?_) fun h58 p58=>?_
          ·refine go 5 ?_;refine cV (b2s _ _ _ (a3l hu _ (a0M hR 0 oM)) (a3l hu _ (a0M hR 1 oM))) ?_;refine go 1 ?_;refine a0c ?_;refine go 7 ?_;exact q_v (by rw[a0Z hR h4n p58 (by decide)];rfl)
          ·refine gC 6 (fun h63 p63=>?_) fun h63 p63=>?_
           ·refine go 6 ?_;refine o_v rfl (OV.cast (u:=.int .i64 (min (a0U u f.kids[0]).low (a0U u f.kids[1]).low)) (a3x rfl rfl) (congrArg (Value.int .i64) oM)) ?_;refine go 4 ?_;refine o_v rfl (OV.cast (u:=.int .i64 (min (a0U u f.kids[0]).high (a0U u f.kids[1]).high)) (a3x rfl rfl) (congrArg (Value.int .i64) oM)) ?_;refine go 2 ?_;refine a0c ?_;refine go 7 ?_;exact q_v (by rw[a0Z hR h4n p63 (by decide)];rfl)
           ·refine gC 6 (fun h76 p76=>?_) fun h76 p76=>?_
            ·refine go 6 ?_;refine o_v rfl (OV.cast (u:=.int .i64 (max (a0U u f.kids[0]).low (a0U u f.kids[1]).low)) (a2a rfl rfl) (congrArg (Value.int .i64) oM)) ?_;refine go 4 ?_;refine o_v rfl (OV.cast (u:=.int .i64 (max (a0U u f.kids[0]).high (a0U u f.kids[1]).high)) (a2a rfl rfl) (congrArg (Value.int .i64) oM)) ?_;refine go 2 ?_;refine a0c ?_;refine go 7 ?_;exact q_v (by rw[a0Z hR h4n p76 (by decide)];rfl)
            ·have h3:=b8w hR (d3m hR h4n p43 p48 p53 p58 p63 p76);refine go 5 ?_;refine dG 0 2 ?_;obtain⟨b91,o91,w91,e91,c91,r91⟩:=RdA.at_ hA (i:=2) oM;replace r91:=a2w r91;obtain⟨s91,rfl,hs91⟩:=r91;refine a0F 2 rfl rfl (by kernel_rfl) rfl (.refl _) rfl (a0i he rfl rfl e91 (2) rfl oM) ?_;refine dG 3 2 ?_;refine dT2 5 6 ?_ ?_
             ·refine cV (ih (f.kids[2]'oM) (by have:=a1N (List.getElem_mem (show 2<f.kids.length from oM));omega) _ (a1E hs91) (a0M hR 2 _)) ?_;refine dH 6 0 ?_;refine go 1 fun g7=>?_
              refine dH 7 0 ?_;refine go 9 ?_;refine cV (a6b _ _ 0) ?_;refine gC 9 (fun h97 p97=>?_) fun h97 p97=>?_
              ·refine go 4 ?_;refine a0p ?_;refine go 7 ?_;exact q_v (by rw[a1F h3];unfold a1n;rw[if_pos p97])
              ·refine gC 6 (fun h100 p100=>?_) fun h100 p100=>?_
               ·refine go 4 ?_;refine a0p ?_;refine go 7 ?_;exact q_v (by rw[a1F h3];unfold a1n;rw[if_neg p97,if_pos p100])
               ·refine go 8 ?_;refine cV (a0E _ _ _) ?_;refine go 1 ?_;refine a0p ?_;refine go 5 ?_;exact q_v (by rw[a1F h3];unfold a1n;rw[if_neg p97,if_neg p100])
             ·refine go 1 fun g7=>?_
              refine dH 5 0 ?_;refine cV (ih (f.kids[2]'oM) (by have:=a1N (List.getElem_mem (show 2<f.kids.length from oM));omega) _ (a1E hs91) (a0M hR 2 _)) ?_;refine dH 7 0 ?_;refine go 9 ?_;refine cV (a6b _ _ 0) ?_;refine gC 9 (fun h97 p97=>?_) fun h97 p97=>?_
              ·refine go 4 ?_;refine a0p ?_;refine go 7 ?_;exact q_v (by rw[a1F h3];unfold a1n;rw[if_pos p97])
              ·refine gC 6 (fun h100 p100=>?_) fun h100 p100=>?_
               ·refine go 4 ?_;refine a0p ?_;refine go 7 ?_;exact q_v (by rw[a1F h3];unfold a1n;rw[if_neg p97,if_pos p100])
               ·refine go 8 ?_;refine cV (a0E _ _ _) ?_;refine go 1 ?_;refine a0p ?_;refine go 5 ?_;exact q_v (by rw[a1F h3];unfold a1n;rw[if_neg p97,if_neg p100])
theorem c9i (I:IMap) (u:Use) (hu:a4E u=true) (f:Fm) (vs:List Value) (hr:FmRd I vs f) (hR:rightF f=true):FnV prog 199 #[.agg vs.toArray,.agg u.cells.toArray] I (.agg (a0U u f).cells.toArray):=by
 have key:∀(N:Nat) (f:Fm),cntN f≤N→∀vs,FmRd I vs f→rightF f=true→FnV prog 199 #[.agg vs.toArray,.agg u.cells.toArray] I (.agg (a0U u f).cells.toArray):=by
  intro N
  induction N with
  |zero=>intro f hN;exact absurd hN (by cases f;simp[cntN])
  |succ N ih=>intro f hN vs hr hR;exact b3L I u hu N ih f hN vs hr hR
 exact key (cntN f) f (Nat.le_refl _) vs hr hR
theorem c2i (I:IMap) (f:Fm) (vs:List Value) (hr:FmRd I vs f) (u:Use) :
    FnV prog 161 #[.agg vs.toArray,.agg u.cells.toArray] I (.agg (a6G f u).cells.toArray):=by
 have hl:=Enc.len (α:=Fm) hr;refine enter func161 call161 rfl ntmps161 rfl fun w0=>?_;refine go 4 fun g2=>?_
 refine go 2 fun g3=>?_
 refine go 2 fun g4=>?_
 refine go 4 ?_;refine a1h (I':=I) (L':=[(2,.pointer (some ⟨g2,0,none⟩)),(3,.pointer (some ⟨g3,0,none⟩)),(4,.pointer (some ⟨g4,0,none⟩)),(13,.bool (!a1p f || !a4E u))]) (H':=[.blk g2 27 vs,.blk g3 70 u.cells,.blk g4 34 [.int .i64 (0),.int .i64 (0)]]) ?_ ?_
 ·refine go 1 ?_;refine o_v rfl (a4n m2 he rfl hl) ?_;refine go 1 ?_;refine cV (b7n _ f _ hr) ?_;refine gS 2 9 (fun h9 p9=>?_) fun h9 p9=>?_
  ·refine go 6 ?_;refine a0b ?_;refine a0c ?_;exact a0h ⟨rfl,rfl,rfl,(bB (by simp only[h9,bS])),trivial⟩ rfl rfl
  ·refine go 2 ?_;refine a0z rfl rfl h9 (a0x (d2o _ u) rfl rfl ?_);refine go 4 ?_;refine a0b ?_;refine a0c ?_;exact a0h ⟨rfl,rfl,rfl,(bB (by simp only[h9,bS])),trivial⟩ rfl rfl
 ·refine gC 0 (fun h13 p13=>?_) fun h13 p13=>?_
  ·refine go 4 ?_;refine a0c ?_;refine go 6 ?_;exact q_v (by rw[c7X h13];rfl)
  ·obtain⟨hv,hu⟩:a1p f=true∧a4E u=true:=by simpa using h13
   refine go 4 ?_;refine o_v rfl (a4n m0 he rfl hl) ?_;refine go 2 ?_;refine cV (c9i _ u hu f _ hr (by simp only[a1p,Bool.and_eq_true]at hv;exact hv.2)) ?_;refine go 2 fun g5=>?_
   refine go 8 ?_;refine o_v rfl (OV.cast (u:=.int .i64 (max 0 (a0U u f).low)) (a2a rfl rfl) (congrArg (Value.int .i64) oM)) ?_;refine go 2 ?_;refine o_v rfl (OV.cast (u:=.int .i64 (max 0 (a0U u f).high)) (a2a rfl rfl) (congrArg (Value.int .i64) oM)) ?_;refine go 2 ?_;refine a0p ?_;refine go 5 ?_;exact q_v (by rw[c0b hu hv];rfl)
end Go.Proofs.YtkndpfncklhhlaaGreat
set_option linter.all false
namespace Go.Sx
open Go
theorem b1i {l:List ByteArray} {k:Nat} {s z:ByteArray}:z∈l.take k++([s]++l.drop k)↔z∈l∨z=s:=by
 have h:z∈l↔z∈l.take k∨z∈l.drop k:=by rw[←List.mem_append,List.take_append_drop]
 rw[h]
 simp only[List.mem_append,List.mem_singleton]
 constructor
 ·rintro (h|h|h)
  ·exact .inl (.inl h)
  ·exact .inr h
  ·exact .inl (.inr h)
 ·rintro ((h|h)|h)
  ·exact .inl h
  ·exact .inr (.inr h)
  ·exact .inr (.inl h)
theorem b0o {α:Type} {l:List α} {i:Nat} (h:i<l.length) {z:α}:z∈l.take (i+1)↔z∈l.take i∨z=l[i]:=by
 rw[←a0e h,List.mem_append,List.mem_singleton]
def a8w (l:List Part):Nat→ByteArray→List ByteArray
 |0,_=>[]
 |k+1,n=>if (a0C l n).isSome=true then n::(if upP l n=a1b then [] else a8w l k (upP l n)) else []
section
variable {l:List Part} {n s v z:ByteArray} {out:List ByteArray} {k N:Nat}
theorem c6g (hk:¬l.length+1≤out.length) (h:(a0C l n).isSome=false) (hq:out++a8w l (l.length+1-out.length) n=a8w l N s):a8w l N s=out:=by
 rw[←hq];obtain⟨m,hm⟩:∃m,l.length+1-out.length=m+1:=⟨l.length-out.length,oM⟩;rw[hm];simp[a8w,h]
theorem d0p (hk:¬l.length+1≤out.length) (h:(a0C l n).isSome=true) (h0:upP l n=a1b) (hq:out++a8w l (l.length+1-out.length) n=a8w l N s):a8w l N s=out++[n]:=by
 rw[←hq];obtain⟨m,hm⟩:∃m,l.length+1-out.length=m+1:=⟨l.length-out.length,oM⟩;rw[hm];simp[a8w,h,h0]
theorem c6f (hk:¬l.length+1≤out.length) (h:(a0C l n).isSome=true) (h0:¬upP l n=a1b) (hq:out++a8w l (l.length+1-out.length) n=a8w l N s):(out++[n])++a8w l (l.length+1-(out++[n]).length) (upP l n)=a8w l N s:=by
 rw[←hq];have hm:l.length+1-out.length=(l.length+1-(out++[n]).length)+1:=by rw[List.length_append,List.length_singleton];omega
 rw[hm];simp[a8w,h,h0]
theorem d0o (hk:l.length+1≤out.length) (hq:out++a8w l (l.length+1-out.length) n=a8w l N s):a8w l N s=out:=by
 rw[←hq,Nat.sub_eq_zero_of_le hk];simp[a8w]
theorem c3i (hv:(a0C l v).isSome=true):v∈a8w l (k+1) n↔(a0C l n).isSome=true∧(n=v∨a2Y l v k n=true):=by
 induction k generalizing n with
 |zero=>
  simp only[a8w,a2Y]
  split
  ·rename_i h
   have e:(if upP l n=a1b then ([]:List ByteArray) else [])=[]:=by split<;>rfl
   rw[e,List.mem_singleton];exact⟨fun h1=>⟨h,.inl h1.symm⟩,fun h1=>h1.2.elim Eq.symm fun h2=>by cases h2⟩
  ·rename_i h;simp[h]
 |succ k ih=>
  rw[a8w]
  split
  ·rename_i h
   simp only[h,true_and,List.mem_cons,a2Y,Bool.and_eq_true,Bool.or_eq_true,Bool.not_eq_true',decide_eq_true_eq,decide_eq_false_iff_not]
   split
   ·rename_i h0
    constructor
    ·rintro (h1|h1)
     ·exact .inl h1.symm
     ·cases h1
    ·rintro (h1|h1)
     ·exact .inl h1.symm
     ·exact absurd h0 h1.1
   ·rename_i h0
    rw[ih]
    constructor
    ·rintro (h1|⟨_,h2⟩)
     ·exact .inl h1.symm
     ·exact .inr ⟨h0,h2⟩
    ·rintro (h1|⟨_,h2⟩)
     ·exact .inl h1.symm
     ·refine .inr ⟨?_,h2⟩
      rcases h2 with h2|h2
      ·rw[h2];exact hv
      ·cases k with
       |zero=>simp[a2Y]at h2
       |succ k=>
        simp only[a2Y,Bool.and_eq_true,Bool.not_eq_true',decide_eq_false_iff_not]at h2
        exact a8e h2.1
  ·rename_i h
   simp[h]
def itU (l:List Part) (n:ByteArray):Nat→ByteArray
 |0=>n
 |k+1=>upP l (itU l n k)
theorem a8N (k:Nat):itU l n (k+1)=itU l (upP l n) k:=by
 induction k with
 |zero=>rfl
 |succ k ih=>show upP l (itU l n (k+1))=_;rw[ih];rfl
theorem c1c (a b:Nat):itU l n (a+b)=itU l (itU l n a) b:=by
 induction b with
 |zero=>rfl
 |succ b ih=>show upP l (itU l n (a+b))=_;rw[ih];rfl
def d3o (l:List Part) (v n:ByteArray) (j:Nat):Prop:=(∀i,i≤j→itU l n (i+1)≠a1b)∧itU l n (j+1)=v
theorem b3M:a2Y l v k n=true↔∃j,j<k∧d3o l v n j:=by
 induction k generalizing n with
 |zero=>simp[a2Y]
 |succ k ih=>
  simp only[a2Y,Bool.and_eq_true,Bool.or_eq_true,Bool.not_eq_true',decide_eq_true_eq,decide_eq_false_iff_not]
  constructor
  ·rintro⟨h0,h|h⟩
   ·exact⟨0,Nat.succ_pos _,fun i hi=>by rw[Nat.le_zero.1 hi];exact h0,h⟩
   ·obtain⟨j,hj,h1,h2⟩:=ih.1 h;refine⟨j+1,oM,fun i hi=>?_,by rw[a8N];exact h2⟩
    cases i with
    |zero=>exact h0
    |succ i=>rw[a8N];exact h1 i oM
  ·rintro⟨j,hj,h1,h2⟩;refine⟨h1 0 (Nat.zero_le _),?_⟩
   cases j with
   |zero=>exact .inl h2
   |succ j=>exact .inr (ih.2 ⟨j,oM,fun i hi=>by rw[←a8N];exact h1 (i+1) oM,by rw[←a8N];exact h2⟩)
theorem c0W {j:Nat} (h:d3o l v n j):∃j',j'<l.length∧d3o l v n j':=by
 induction j using Nat.strongRecOn with
 |ind j ih=>
  by_cases hd:∃a b,a<b∧b≤j∧itU l n a=itU l n b
  ·obtain⟨a,b,hab,hbj,e⟩:=hd;have hs:∀c,itU l n (a+c)=itU l n (b+c):=fun c=>by rw[c1c,c1c,e]
   refine ih (j-(b-a)) oM ⟨fun i hi=>?_,?_⟩
   ·exact h.1 i oM
   ·have h2:=hs (j+1-b);rw[show a+(j+1-b)=j-(b-a)+1 from oM,show b+(j+1-b)=j+1 by omega]at h2
    rw[h2];exact h.2
  ·refine⟨j,?_,h⟩
   have hn:((List.range (j+1)).map (itU l n)).Nodup:=by
    rw[List.nodup_iff_pairwise_ne,List.pairwise_map];refine List.Pairwise.imp_of_mem (fun {a b} ha hb hlt e=>?_) (List.pairwise_lt_range (n:=j+1));rw[List.mem_range]at ha hb
    exact hd ⟨a,b,hlt,oM,e⟩
   have hsub:((List.range (j+1)).map (itU l n))⊆l.map Part.name:=fun x hx=>by
    obtain⟨i,hi,rfl⟩:=List.mem_map.1 hx;have h1:=a8e (h.1 i (by have:=List.mem_range.1 hi;omega));obtain⟨p,hp⟩:=Option.isSome_iff_exists.1 h1;have hpn:p.name=itU l n i:=by simpa using List.find?_some hp
    exact List.mem_map.2 ⟨p,a7n hp,hpn⟩
   have h3:=hn.length_le_of_subset hsub;rw[List.length_map,List.length_map,List.length_range]at h3
   omega
theorem b8i {p:Part} (h:p∈l):(a0C l p.name).isSome=true:=by
 unfold a0C;rw[List.find?_isSome];exact⟨p,h,by simp⟩
theorem d1y (hv:(a0C l v).isSome=true):a8E l v n↔(∃p∈l,p.name=n∧p.name≠v∧v∈a8w l (l.length+1) p.name):=by
 constructor
 ·rintro⟨⟨_,h2,h3⟩,k,hk⟩;obtain⟨p,hp⟩:=Option.isSome_iff_exists.1 h2;have hpn:p.name=n:=by simpa using List.find?_some hp
  refine⟨p,a7n hp,hpn,by rw[hpn];exact h3,?_⟩;rw[c3i hv,hpn];obtain⟨j,_,hj⟩:=b3M.1 hk;obtain⟨j',h4,h5⟩:=c0W hj;exact⟨h2,.inr (b3M.2 ⟨j',h4,h5⟩)⟩
 ·rintro⟨p,hp,rfl,h1,h2⟩;rw[c3i hv]at h2
  refine⟨⟨hv,b8i hp,h1⟩,l.length,?_⟩
  rcases h2.2 with h3|h3
  ·exact absurd h3 h1
  ·exact h3
def c6J (l:List Part) (v:ByteArray) (p:Part):Prop:=p.name≠v∧v∈a8w l (l.length+1) p.name
theorem b3i {i:Nat} {ns:List ByteArray} (hi:i<l.length) (h:∀z,z∈ns↔∃p∈l.take i,p.name=z∧c6J l v p) (hn:¬c6J l v l[i]):∀z,z∈ns↔∃p∈l.take (i+1),p.name=z∧c6J l v p:=fun z=>by
 rw[h z]
 constructor
 ·rintro⟨p,hp,h1⟩;exact⟨p,(b0o hi).2 (.inl hp),h1⟩
 ·rintro⟨p,hp,h1,h2⟩
  rcases (b0o hi).1 hp with hp|rfl
  ·exact⟨p,hp,h1,h2⟩
  ·exact absurd h2 hn
theorem c4v {i:Nat} {ns ns2:List ByteArray} (hi:i<l.length) (h:∀z,z∈ns↔∃p∈l.take i,p.name=z∧c6J l v p) (h2:∀z,z∈ns2↔z∈ns∨z=l[i].name) (hn:c6J l v l[i]):∀z,z∈ns2↔∃p∈l.take (i+1),p.name=z∧c6J l v p:=fun z=>by
 rw[h2 z,h z]
 constructor
 ·rintro (⟨p,hp,h1⟩|rfl)
  ·exact⟨p,(b0o hi).2 (.inl hp),h1⟩
  ·exact⟨l[i],(b0o hi).2 (.inr rfl),rfl,hn⟩
 ·rintro⟨p,hp,h1,h3⟩
  rcases (b0o hi).1 hp with hp|rfl
  ·exact .inl ⟨p,hp,h1,h3⟩
  ·exact .inr h1.symm
theorem c4w {ns:List ByteArray} (hv:(a0C l v).isSome=true) (h:∀z,z∈ns↔∃p∈l.take l.length,p.name=z∧c6J l v p):∀z,z∈ns↔a8E l v z:=fun z=>by
 rw[h z,List.take_length,d1y hv];rfl
end
def d3s (d:Ivl) (u:Use) (x:Life):Life:=⟨b5R x.km u.km,b5R x.cycles u.cycles,b5R x.damage d⟩
section
variable {p:Part} {s:ByteArray} {day:Int}
theorem b2U (h1:¬s=sKm) (h2:¬s=a1S) (h3:¬s=a2c):b4o p s day=a5J day (if s=a6f then p.since else p.made):=by
 unfold b4o;rw[if_neg h1,if_neg h2,if_neg h3]
 split<;>rfl
end
section
variable {st:List Part} {e:Evt} {d:Ivl} {i:Nat} {ns:List ByteArray}
theorem b7K (hi:i<st.length) (hn:∀n,n∈ns↔a8E st e.part n) (h:(decide (st[i].name=e.part)||decide (st[i].name∈ns))=true):(useL st e d)[i]'(by rw[use_len];exact hi)=a5O d e.use st[i]:=
 b7N hi hn (by simpa[or_comm]using h)
theorem c9Y (hi:i<st.length) (hn:∀n,n∈ns↔a8E st e.part n) (h:(decide (st[i].name=e.part)||decide (st[i].name∈ns))=false):(useL st e d)[i]'(by rw[use_len];exact hi)=st[i]:=
 c2V hi hn (by
  simp only[Bool.or_eq_false_iff,decide_eq_false_iff_not]at h
  simp[h.1,h.2])
end
end Go.Sx
namespace Go.Proofs.YtkndpfncklhhlaaGreat
open Go Go.Sx Tryz
set_option linter.all false
set_option maxRecDepth 20000
set_option maxHeartbeats 4000000
instance:Has (tyK prog 29) (true,4):=hk
theorem c2j (I:IMap) (v:Value) (l:List Part) (hv:RdS I v l) (s:ByteArray) :
    FnE prog 35 #[.agg #[v],.string s] I (PartIs I (a0C l s)):=by
 have hv0:=hv;obtain⟨A,c0,rfl,hA,hc,hm⟩:=hv;refine enter func35 call35 rfl ntmps35 rfl fun w0=>?_;refine go 4 fun g2=>?_
 refine go 2 fun g4=>?_
 refine go 8 ?_;refine cV (b0d _ _ l hv0 s) ?_;refine gC 10 (fun h11 p11=>?_) fun h11 p11=>?_
 ·refine go 11 ?_;exact q_e (PartIs.none (((a2h (fun p:Part=>decide (p.name=s)) l).resolve_right (by rintro⟨k,hk,e,_⟩;omega)).2))
 ·refine go 7 ?_;obtain⟨k,hk,ek,hF⟩:=(a2h (fun p:Part=>decide (p.name=s)) l).resolve_left (fun h=>oM);have hF:a0C l s=some l[k]:=hF;obtain⟨b16,o16,w16,e16,c16,r16⟩:=RdA.at_ hA (i:=k) hk;obtain⟨q16,rfl,B16,d16,rfl,hB16,hd16,hm16⟩:=r16;refine o_v rfl (a0i he rfl rfl e16 (k) ek hk) ?_;refine go 8 ?_;exact q_e (PartIs.of hF ⟨_,rfl,B16,d16,rfl,hB16,hd16,hm16⟩)
theorem d2r (I:IMap) (v:Value) (l:List Part) (hv:RdS I v l) (hl:l.length≤1000) (s:ByteArray) :
    FnI prog 157 #[.agg #[v],.string s] I (fun u J=>∃w b,u = .tuple #[w,.bool b]∧RdS J w (a8w l (l.length+1) s)):=by
 have hv0:=hv;obtain⟨A,c0,rfl,hA,hc,hm⟩:=hv;refine enter func157 call157 rfl ntmps157 rfl fun w0=>?_;refine go 4 fun g2=>?_
 refine go 6 ?_;refine a0G 9 1 ?_;refine go 5 ?_
 refine a6N (s) ([]) (none) ((0:Nat)) ([]) (fun n out A1 k1 xs=>I)
  (fun n out A1 k1 xs=>[(1,.string n),(2,.pointer (some ⟨g2,0,none⟩)),(6,.slice A1 out.length k1)])
  (fun n out A1 k1 xs=>[.row (.slice A1 out.length k1) 9 1 out.length xs,.blk g2 97 [.slice A l.length c0]])
  (fun n out A1 k1 xs=>out.length≤l.length+1∧Flat I xs out∧out++a8w l (l.length+1-out.length) n=a8w l (l.length+1) s)
  (fun n out A1 k1 xs=>l.length+1-out.length) ⟨Nat.zero_le _,.nil,rfl⟩ rfl sb rfl ?_
 intro n out A1 k1 xs ⟨ho,hF,hq⟩;refine gC 11 (fun h14 p14=>?_) fun h14 p14=>?_
 ·have hot:¬l.length+1≤out.length:=oM;refine go 8 ?_;refine a2p (c2j _ _ l hv0 n) rfl rfl fun v18 q18=>?_;obtain⟨vs18,rfl,s18,rfl,hs18⟩:=q18;refine go 5 fun g7=>?_
  refine go 1 ?_;refine a1A _ he rfl rfl rfl rfl rfl (Enc.one (α:=Part) (I:=I) (x:=((a0C l n).getD zPart)) ⟨s18,rfl,hs18⟩) ?_;refine gC 10 (fun h22 p22=>?_) fun h22 p22=>?_
  ·refine go 14 ?_;refine a0a ?_;refine a0b ?_;refine a0a ?_;refine a0d (l:=out) rfl rfl hF fun I9 j9 R9=>?_;exact q_i ⟨_,_,rfl,by rw[c6g hot (by simpa using h22) hq];exact R9⟩
  ·have hfs:(a0C l n).isSome=true:=by simpa using h22
   refine go 8 fun v26=>?_
   refine go 1 ?_;refine a0c ?_;refine a0o he he rfl rfl rfl rfl rfl oM oM rfl fun v27=>?_;refine a2I fun A27 c27 hv27=>?_;subst hv27;refine gC 11 (fun h30 p30=>?_) fun h30 p30=>?_
   ·refine go 14 ?_;refine a0b ?_;refine a0a ?_;refine a0b ?_;refine a0a ?_;refine a0b ?_;refine a0a ?_;refine a0d (l:=out++[n]) rfl (by simp) (hF.append (.one rfl)) fun I9 j9 R9=>?_;exact q_i ⟨_,_,rfl,by rw[d0p hot hfs p30 hq];exact R9⟩
   ·refine go 9 ?_;refine a0b ?_;refine a0a ?_;refine a0b ?_;refine a0a ?_;exact a1R (upP l n) (out++[n]) (A27) (c27) (_) ⟨by simp;omega,hF.append (.one rfl),c6f oM hfs p30 hq⟩ (by simp;omega) rfl ⟨rfl,rfl,congrArg (fun z:Nat=>some (Value.slice A27 z c27)) (by simp),trivial⟩ (by rw[List.length_append];rfl)
 ·refine go 14 ?_;refine a0b ?_;refine a0a ?_;refine a0d (l:=out) rfl rfl hF fun I9 j9 R9=>?_;exact q_i ⟨_,_,rfl,by rw[d0o oM hq];exact R9⟩
theorem d4e (I:IMap) (v:Value) (l:List ByteArray) (hv:RdS I v l) (s:ByteArray) :
    FnV prog 158 #[v,.string s] I (.bool (decide (s∈l))):=by
 have hv0:=hv;obtain⟨A,c0,rfl,hA,hc,hm⟩:=hv;refine enter func158 call158 rfl ntmps158 rfl fun w0=>?_;refine go 12 ?_
 refine a0w (α:=Nat) 0 (fun i=>I)
  (fun i=>[(0,.slice A l.length c0),(1,.string s),(5,.int .i64 ((i:Nat):Int))])
  (fun i=>[])
  (fun i=>i≤l.length∧s∉l.take i)
  (fun i=>l.length-i) ⟨Nat.zero_le _,by simp⟩ rfl sb rfl ?_
 intro i ⟨hi,hn⟩;refine gC 9 (fun h9 p9=>?_) fun h9 p9=>?_
 ·have hlt:i<l.length:=oM;refine go 8 ?_;obtain⟨b14,o14,w14,e14,c14,r14⟩:=RdA.at_ hA (i:=i) oM;obtain rfl:=r14;refine gC 6 (fun h17 p17=>?_) fun h17 p17=>?_
  ·refine go 12 ?_;exact q_v (congrArg Value.bool (decide_eq_true (by rw[←p17];exact List.getElem_mem hlt)).symm)
  ·refine go 9 ?_;exact a0s (i+1) ⟨oM,fun h=>((b0o hlt).1 h).elim hn fun h=>p17 h.symm⟩ oM rfl sb rfl
 ·refine go 12 ?_;exact q_v (congrArg Value.bool (decide_eq_false (by rwa[List.take_of_length_le oM]at hn)).symm)
theorem d4f (I:IMap) (v:Value) (l:List ByteArray) (hv:RdS I v l) (s:ByteArray) :
    FnV prog 104 #[v,.string s] I (.bool (decide (s∈l))):=by
 have hv0:=hv;obtain⟨A,c0,rfl,hA,hc,hm⟩:=hv;refine enter func104 call104 rfl ntmps104 rfl fun w0=>?_;refine go 12 ?_
 refine a0w (α:=Nat) 0 (fun i=>I)
  (fun i=>[(0,.slice A l.length c0),(1,.string s),(5,.int .i64 ((i:Nat):Int))])
  (fun i=>[])
  (fun i=>i≤l.length∧s∉l.take i)
  (fun i=>l.length-i) ⟨Nat.zero_le _,by simp⟩ rfl sb rfl ?_
 intro i ⟨hi,hn⟩;refine gC 9 (fun h9 p9=>?_) fun h9 p9=>?_
 ·have hlt:i<l.length:=oM;refine go 8 ?_;obtain⟨b14,o14,w14,e14,c14,r14⟩:=RdA.at_ hA (i:=i) oM;obtain rfl:=r14;refine gC 6 (fun h17 p17=>?_) fun h17 p17=>?_
  ·refine go 12 ?_;exact q_v (congrArg Value.bool (decide_eq_true (by rw[←p17];exact List.getElem_mem hlt)).symm)
  ·refine go 9 ?_;exact a0s (i+1) ⟨oM,fun h=>((b0o hlt).1 h).elim hn fun h=>p17 h.symm⟩ oM rfl sb rfl
 ·refine go 12 ?_;exact q_v (congrArg Value.bool (decide_eq_false (by rwa[List.take_of_length_le oM]at hn)).symm)
theorem d2q (I:IMap) (v:Value) (l:List ByteArray) (hv:RdS I v l) (hl:l.length≤1000) (s:ByteArray) :
    FnI prog 159 #[v,.string s] I (fun u J=>∃ns,RdS J u ns∧ns.length≤l.length+1∧∀z,z∈ns↔z∈l∨z=s):=by
 have hv0:=hv;obtain⟨A,c0,rfl,hA,hc,hm⟩:=hv;refine enter func159 call159 rfl ntmps159 rfl fun w0=>?_;refine go 11 ?_;refine a3O (α:=Nat) (Ix:=(fun k=>I)) (Lx:=(fun k=>[(0,.slice A l.length c0),(1,.string s),(5,.int .i64 ((k:Nat):Int))])) (Hx:=(fun k=>[])) (p:=(fun k=>k≤l.length)) ?_ ?_
 ·refine go 1 ?_
  refine a0w (α:=Nat) 0 (fun k=>I)
   (fun k=>[(0,.slice A l.length c0),(1,.string s),(5,.int .i64 ((k:Nat):Int))])
   (fun k=>[])
   (fun k=>k≤l.length)
   (fun k=>l.length-k) (Nat.zero_le _) rfl sb rfl ?_
  intro k hk;refine gS 8 10 (fun h10 p10=>?_) fun h10 p10=>?_
  ·have hlt:k<l.length:=oM;refine go 2 ?_;obtain⟨b13,o13,w13,e13,c13,r13⟩:=RdA.at_ hA (i:=k) oM;obtain rfl:=r13;refine gC 7 (fun h17 p17=>?_) fun h17 p17=>?_
   ·refine go 10 ?_;exact a0s (k+1) oM oM rfl sb rfl
   ·refine go 5 ?_;exact a1s k hk sb rfl rfl
  ·refine go 15 ?_;exact a1s k hk sb rfl rfl
 ·intro k hk;refine gS 8 24 (fun h24 p24=>?_) fun h24 p24=>?_
  ·have hlt:k<l.length:=oM;refine go 2 ?_;obtain⟨b27,o27,w27,e27,c27,r27⟩:=RdA.at_ hA (i:=k) oM;obtain rfl:=r27;refine gC 7 (fun h31 p31=>?_) fun h31 p31=>?_
   ·refine go 9 ?_;exact q_i ⟨l,hv0,Nat.le_succ _,fun z=>⟨.inl,fun h=>h.elim id fun e=>by rw[e,←p31];exact List.getElem_mem hlt⟩⟩
   ·refine go 3 ?_;refine a3h fun hE6 hf6=>?_;refine go 1 ?_;refine dG 1 2 ?_;refine a0F 3 rfl rfl (by kernel_rfl) rfl .slnil rfl (a1y he rfl rfl k rfl oM) ?_;refine dG 5 1 ?_;refine dG 8 2 ?_;refine a0F 10 rfl rfl (by kernel_rfl) rfl .slnil rfl (a0K he rfl rfl k rfl oM) ?_;refine dT2 0 6 ?_ ?_
    ·refine go 1 fun v33=>?_
     refine go 1 ?_;refine dT2 4 6 ?_ ?_
     ·refine a0y ((hv0.take k oM)) rfl he he rfl rfl rfl rfl (by simp;omega) (by simp;omega) rfl fun v37 x37 f37=>?_;refine dH 6 0 ?_;refine go 1 fun v39=>?_
      refine dH 7 0 ?_;refine a0b ?_;refine a0o he he rfl rfl rfl rfl rfl (by simp;omega) (by simp;omega) rfl fun v40=>?_;refine dH 11 0 ?_;refine a0y ((hv0.drop k oM)) rfl he he rfl rfl rfl rfl (by simp;omega) (by simp;omega) rfl fun v44 x44 f44=>?_;refine a0d (l:=l.take k++[s]++l.drop k) rfl (by simp<;>omega) ((((Flat.nil.append f37).append (.one rfl)).append f44)) fun I44 j44 R44=>?_;refine dG 12 1 ?_;refine go 4 ?_;exact q_i ⟨_,R44,by simp;omega,fun z=>by rw[List.append_assoc];exact b1i⟩
     ·refine go 1 fun v39=>?_
      refine dH 4 0 ?_;refine a0b ?_;refine a0y ((hv0.take k oM)) rfl he he rfl rfl rfl rfl (by simp;omega) (by simp;omega) rfl fun v37 x37 f37=>?_;refine dH 7 0 ?_;refine a0b ?_;refine a0b ?_;refine a0o he he rfl rfl rfl rfl rfl (by simp;omega) (by simp;omega) rfl fun v40=>?_;refine dH 11 0 ?_;refine a0y ((hv0.drop k oM)) rfl he he rfl rfl rfl rfl (by simp;omega) (by simp;omega) rfl fun v44 x44 f44=>?_;refine a0d (l:=l.take k++[s]++l.drop k) rfl (by simp<;>omega) ((((Flat.nil.append f37).append (.one rfl)).append f44)) fun I44 j44 R44=>?_;refine dG 12 1 ?_;refine go 4 ?_;exact q_i ⟨_,R44,by simp;omega,fun z=>by rw[List.append_assoc];exact b1i⟩
    ·refine go 1 fun v39=>?_
     refine dH 0 0 ?_;refine go 1 fun v33=>?_
     refine dH 4 0 ?_;refine a0y ((hv0.take k oM)) rfl he he rfl rfl rfl rfl (by simp;omega) (by simp;omega) rfl fun v37 x37 f37=>?_;refine dH 7 0 ?_;refine a0b ?_;refine a0b ?_;refine a0o he he rfl rfl rfl rfl rfl (by simp;omega) (by simp;omega) rfl fun v40=>?_;refine dH 11 0 ?_;refine a0y ((hv0.drop k oM)) rfl he he rfl rfl rfl rfl (by simp;omega) (by simp;omega) rfl fun v44 x44 f44=>?_;refine a0d (l:=l.take k++[s]++l.drop k) rfl (by simp<;>omega) ((((Flat.nil.append f37).append (.one rfl)).append f44)) fun I44 j44 R44=>?_;refine dG 12 1 ?_;refine go 4 ?_;exact q_i ⟨_,R44,by simp;omega,fun z=>by rw[List.append_assoc];exact b1i⟩
  ·refine go 13 ?_;refine a3h fun hE6 hf6=>?_;refine go 1 ?_;refine dG 1 2 ?_;refine a0F 3 rfl rfl (by kernel_rfl) rfl .slnil rfl (a1y he rfl rfl k rfl oM) ?_;refine dG 5 1 ?_;refine dG 8 2 ?_;refine a0F 10 rfl rfl (by kernel_rfl) rfl .slnil rfl (a0K he rfl rfl k rfl oM) ?_;refine dT2 0 6 ?_ ?_
   ·refine go 1 fun v33=>?_
    refine go 1 ?_;refine dT2 4 6 ?_ ?_
    ·refine a0y ((hv0.take k oM)) rfl he he rfl rfl rfl rfl (by simp;omega) (by simp;omega) rfl fun v37 x37 f37=>?_;refine dH 6 0 ?_;refine go 1 fun v39=>?_
     refine dH 7 0 ?_;refine a0b ?_;refine a0o he he rfl rfl rfl rfl rfl (by simp;omega) (by simp;omega) rfl fun v40=>?_;refine dH 11 0 ?_;refine a0y ((hv0.drop k oM)) rfl he he rfl rfl rfl rfl (by simp;omega) (by simp;omega) rfl fun v44 x44 f44=>?_;refine a0d (l:=l.take k++[s]++l.drop k) rfl (by simp<;>omega) ((((Flat.nil.append f37).append (.one rfl)).append f44)) fun I44 j44 R44=>?_;refine dG 12 1 ?_;refine go 4 ?_;exact q_i ⟨_,R44,by simp;omega,fun z=>by rw[List.append_assoc];exact b1i⟩
    ·refine go 1 fun v39=>?_
     refine dH 4 0 ?_;refine a0b ?_;refine a0y ((hv0.take k oM)) rfl he he rfl rfl rfl rfl (by simp;omega) (by simp;omega) rfl fun v37 x37 f37=>?_;refine dH 7 0 ?_;refine a0b ?_;refine a0b ?_;refine a0o he he rfl rfl rfl rfl rfl (by simp;omega) (by simp;omega) rfl fun v40=>?_;refine dH 11 0 ?_;refine a0y ((hv0.drop k oM)) rfl he he rfl rfl rfl rfl (by simp;omega) (by simp;omega) rfl fun v44 x44 f44=>?_;refine a0d (l:=l.take k++[s]++l.drop k) rfl (by simp<;>omega) ((((Flat.nil.append f37).append (.one rfl)).append f44)) fun I44 j44 R44=>?_;refine dG 12 1 ?_;refine go 4 ?_;exact q_i ⟨_,R44,by simp;omega,fun z=>by rw[List.append_assoc];exact b1i⟩
   ·refine go 1 fun v39=>?_
    refine dH 0 0 ?_;refine go 1 fun v33=>?_
    refine dH 4 0 ?_;refine a0y ((hv0.take k oM)) rfl he he rfl rfl rfl rfl (by simp;omega) (by simp;omega) rfl fun v37 x37 f37=>?_;refine dH 7 0 ?_;refine a0b ?_;refine a0b ?_;refine a0o he he rfl rfl rfl rfl rfl (by simp;omega) (by simp;omega) rfl fun v40=>?_;refine dH 11 0 ?_;refine a0y ((hv0.drop k oM)) rfl he he rfl rfl rfl rfl (by simp;omega) (by simp;omega) rfl fun v44 x44 f44=>?_;refine a0d (l:=l.take k++[s]++l.drop k) rfl (by simp<;>omega) ((((Flat.nil.append f37).append (.one rfl)).append f44)) fun I44 j44 R44=>?_;refine dG 12 1 ?_;refine go 4 ?_;exact q_i ⟨_,R44,by simp;omega,fun z=>by rw[List.append_assoc];exact b1i⟩
theorem c2k (I:IMap) (v:Value) (l:List Part) (hv:RdS I v l) (hl:l.length≤999) (s:ByteArray) :
    FnI prog 103 #[.agg #[v],.string s] I (fun u J=>∃ns,RdS J u ns∧∀z,z∈ns↔a8E l s z):=by
 have hv0:=hv;obtain⟨A,c0,rfl,hA,hc,hm⟩:=hv;refine enter func103 call103 rfl ntmps103 rfl fun w0=>?_;refine go 4 fun g2=>?_
 refine go 14 ?_;refine cV (b0d _ _ l hv0 s) ?_;refine gC 3 (fun h12 p12=>?_) fun h12 p12=>?_
 ·refine go 8 ?_;exact q_i ⟨[],RdS.nil',fun z=>⟨fun h=>(by cases h),fun h=>absurd h (c1J (((a2h (fun p:Part=>decide (p.name=s)) l).resolve_right (by rintro⟨k,hk,e,_⟩;omega)).2) z)⟩⟩
 ·have hsome:(a0C l s).isSome=true:=by
    obtain⟨k,hk,ek,hF⟩:=(a2h (fun p:Part=>decide (p.name=s)) l).resolve_left (fun h=>oM);rw[show a0C l s=some l[k] from hF];rfl
  refine go 9 ?_
  refine a2C ((0:Nat)) (_) ([]) (I) (fun i v5 ns J=>J)
   (fun i v5 ns J=>[(1,.string s),(2,.pointer (some ⟨g2,0,none⟩)),(5,v5),(6,.int .i64 ((i:Nat):Int))])
   (fun i v5 ns J=>[.blk g2 97 [.slice A l.length c0]])
   (fun i v5 ns J=>i≤l.length∧ILe I J∧RdS J v5 ns∧ns.length≤i∧∀z,z∈ns↔∃p∈l.take i,p.name=z∧c6J l s p)
   (fun i v5 ns J=>l.length-i) ⟨Nat.zero_le _,ILe.refl _,RdS.nil',Nat.le_refl _,fun z=>by simp⟩ rfl sb rfl ?_
  intro i v5 ns J ⟨hi,hJ,hv5,hnl,hns⟩;have hA:=hA.le hJ;refine gC 10 (fun h17 p17=>?_) fun h17 p17=>?_
  ·have hlt:i<l.length:=oM;refine go 5 ?_;refine a3h fun hE7 hf7=>?_;refine go 1 ?_;refine dG 0 4 ?_;obtain⟨b25,o25,w25,e25,c25,r25⟩:=RdA.at_ hA (i:=i) hlt;obtain⟨q25,rfl,B25,d25,rfl,hB25,hd25,hm25⟩:=r25;refine dH 4 3 ?_;refine a0D (d2r _ _ l (hv0.le hJ) oM l[i].name) rfl rfl fun v28 I28 j28 q28=>?_;have hA:=hA.le j28;have hv5:=hv5.le j28;obtain⟨w28,b28,rfl,hw28⟩:=q28;refine dG 8 5 ?_;refine go 7 ?_;obtain⟨b34,o34,w34,e34,c34,r34⟩:=RdA.at_ hA (i:=i) hlt;obtain⟨q34,rfl,B34,d34,rfl,hB34,hd34,hm34⟩:=r34;refine gS 6 39 (fun h39 p39=>?_) fun h39 p39=>?_
   ·refine go 3 ?_;refine a0z rfl rfl h39 (a0x (d4e _ w28 _ hw28 s) rfl rfl ?_);refine gC 3 (fun h43 p43=>?_) fun h43 p43=>?_
    ·refine go 5 ?_;obtain⟨b48,o48,w48,e48,c48,r48⟩:=RdA.at_ hA (i:=i) hlt;obtain⟨q48,rfl,B48,d48,rfl,hB48,hd48,hm48⟩:=r48;refine go 4 ?_;refine a0D (d2q _ v5 ns hv5 oM l[i].name) rfl rfl fun v51 I51 j51 q51=>?_;obtain⟨ns2,q51,hl2,hns2⟩:=q51;refine go 10 ?_;exact a1k (i+1) (_) (ns2) (_) ⟨oM,hJ.trans (j28.trans j51),q51,oM,c4v hlt hns hns2 ⟨p39,p43⟩⟩ oM rfl sb rfl
    ·refine go 9 ?_;exact a1k (i+1) (_) (ns) (_) ⟨oM,hJ.trans j28,hv5,oM,b3i hlt hns (fun h=>p43 h.2)⟩ oM rfl sb rfl
   ·refine go 16 ?_;exact a1k (i+1) (_) (ns) (I28) ⟨oM,hJ.trans j28,hv5,oM,b3i hlt hns (fun h=>h.1 p39)⟩ oM rfl sb rfl
  ·obtain rfl:i=l.length:=oM;refine go 13 ?_;exact q_i ⟨ns,hv5,c4w hsome hns⟩
theorem b7o (I:IMap) (vc:Value) (c:List Kind) (hvc:RdS I vc c) (hsc:SmC c) (f:Fm) (sf:Value) (hf:FmRd I [ci f.op,ci f.n,sf] f)  :
    FnV prog 52 #[.agg #[vc,ci f.op,ci f.n,sf]] I (.bool (a1a c&&a1p f)):=by
 refine enter func52 call52 rfl ntmps52 rfl fun w0=>?_;refine go 4 fun g1=>?_
 refine go 6 ?_;refine o_v rfl (a0J ([vc]) m0 he rfl rfl rfl) ?_;refine go 1 ?_;refine cV (a8Z _ vc c hvc hsc) ?_;refine gS 1 6 (fun h6 p6=>?_) fun h6 p6=>?_
 ·refine go 1 ?_;refine a0P (a0z rfl rfl h6 (a0k rfl (a0J ([ci f.op,ci f.n,sf]) m0 he rfl rfl rfl) ?_));refine go 1 ?_;refine a0z rfl rfl h6 (a0x (b7n _ f _ hf) rfl rfl ?_);refine go 6 ?_;exact q_v (congrArg Value.bool (by rw[a3J];simp only[h6,bS]))
 ·refine go 9 ?_;exact q_v (congrArg Value.bool (by rw[a3J];simp only[h6,bS]))
theorem c6T (I:IMap) (vc:Value) (f:Fm) (sf:Value) (hf:FmRd I [ci f.op,ci f.n,sf] f) (hvo:vc.oneCell'=true) (lf:Life) (u:Use) :
    FnV prog 105 #[.agg #[vc,ci f.op,ci f.n,sf],.agg lf.cells.toArray,.agg u.cells.toArray] I (.agg (d3s (a6G f u) u lf).cells.toArray):=by
 refine enter func105 call105 rfl ntmps105 rfl fun w0=>?_;refine go 4 fun g3=>?_
 refine go 2 fun g4=>?_
 refine go 2 fun g5=>?_
 refine go 2 fun g6=>?_
 refine go 3 ?_;refine ds1 ?_;refine dG 0 1 ?_;refine a0F 1 rfl rfl (by kernel_rfl) rfl (.cons _ (.refl _)) rfl (a0J (lf.km.cells) m1 he rfl rfl rfl) ?_;refine dG 2 1 ?_;refine a0F 3 rfl rfl (by kernel_rfl) rfl (.cons _ (.refl _)) rfl (a0J (u.km.cells) m0 he rfl rfl rfl) ?_;refine dG 5 1 ?_;refine a0F 6 rfl rfl (by kernel_rfl) rfl (.cons _ (.refl _)) rfl (a0J (lf.cycles.cells) m1 he rfl rfl rfl) ?_;refine dG 7 1 ?_;refine a0F 8 rfl rfl (by kernel_rfl) rfl (.cons _ (.refl _)) rfl (a0J (u.cycles.cells) m0 he rfl rfl rfl) ?_;refine dG 10 1 ?_;refine a0F 11 rfl rfl (by kernel_rfl) rfl (.cons _ (.refl _)) rfl (a0J (lf.damage.cells) m1 he rfl rfl rfl) ?_;refine dG 12 1 ?_;refine a0F 13 rfl rfl (by kernel_rfl) rfl (.cons _ (.refl _)) rfl (a0J ([ci f.op,ci f.n,sf]) m2 he rfl rfl rfl) ?_;refine dG 14 1 ?_;refine dH 4 0 ?_;refine cV (b0b _ lf.km u.km) ?_;refine dH 9 0 ?_;refine cV (b0b _ lf.cycles u.cycles) ?_;refine dH 15 0 ?_;refine cV (c2i _ f _ hf u) ?_;refine dH 16 0 ?_;refine cV (b0b _ lf.damage (a6G f u)) ?_;refine dH 17 1 ?_;refine go 6 ?_;exact q_v rfl
theorem c6S (I:IMap) (vc:Value) (f:Fm) (sf:Value) (hf:FmRd I [ci f.op,ci f.n,sf] f) (hvo:vc.oneCell'=true) (v:Value) (l:List Part) (hv:RdS I v l) (hl:l.length≤999) (e:Evt) :
    FnI prog 62 #[.agg #[vc,ci f.op,ci f.n,sf],.agg #[v],.string e.part,.agg e.use.cells.toArray] I (fun u J=>∃w,u = .agg #[w]∧RdS J w (useL l e (a6G f e.use))):=by
 have hv0:=hv;obtain⟨A,c0,rfl,hA,hc,hm⟩:=hv;refine enter func62 call62 rfl ntmps62 rfl fun w0=>?_;refine go 4 fun g4=>?_
 refine go 2 fun g5=>?_
 refine go 2 fun g7=>?_
 refine go 2 fun g8=>?_
 refine go 7 ?_;refine a0D (c2k _ _ l hv0 hl e.part) rfl rfl fun v15 I15 j15 q15=>?_;have hA:=hA.le j15;have hf:=hf.le j15;obtain⟨ns,q15,hns⟩:=q15;refine go 7 fun g10=>?_
 refine go 5 ?_;refine a0G 54 14 ?_;refine go 4 ?_
 refine a2C ((0:Nat)) (none) ((0:Nat)) ([]) (fun i A1 k1 xs=>I15)
  (fun i A1 k1 xs=>[(2,.string e.part),(4,.pointer (some ⟨g4,0,none⟩)),(5,.pointer (some ⟨g5,0,none⟩)),(7,.pointer (some ⟨g7,0,none⟩)),(8,.pointer (some ⟨g8,0,none⟩)),(9,v15),(10,.pointer (some ⟨g10,0,none⟩)),(11,.int .i64 ((i:Nat):Int))])
  (fun i A1 k1 xs=>[.row (.slice A1 i k1) 54 14 i xs,.blk g10 97 [.slice A1 i k1],.blk g8 97 [.slice none 0 0],.blk g7 70 e.use.cells,.blk g5 97 [.slice A l.length c0],.blk g4 29 [vc,ci f.op,ci f.n,sf]])
  (fun i A1 k1 xs=>i≤l.length∧Flat I15 xs ((useL l e (a6G f e.use)).take i))
  (fun i A1 k1 xs=>l.length-i) ⟨Nat.zero_le _,.nil⟩ rfl sb rfl ?_
 intro i A1 k1 xs ⟨hi,hF⟩;refine gC 10 (fun h20 p20=>?_) fun h20 p20=>?_
 ·have hlt:i<l.length:=oM;have hltU:i<(useL l e (a6G f e.use)).length:=by rw[use_len];exact hlt
  refine go 9 ?_;obtain⟨b26,o26,w26,e26,c26,r26⟩:=RdA.at_ hA (i:=i) hlt;obtain⟨q,rfl,hq⟩:=r26;refine go 4 fun g12=>?_
  refine go 1 ?_;refine a1A _ he rfl rfl rfl rfl rfl (Enc.one (α:=Part) (x:=l[i]) ⟨q,rfl,hq⟩) ?_;refine go 3 ?_;refine a3O (α:=Part) (Ix:=(fun y=>I15)) (Lx:=(fun y=>[(2,.string e.part),(4,.pointer (some ⟨g4,0,none⟩)),(5,.pointer (some ⟨g5,0,none⟩)),(7,.pointer (some ⟨g7,0,none⟩)),(8,.pointer (some ⟨g8,0,none⟩)),(9,v15),(10,.pointer (some ⟨g10,0,none⟩)),(11,.int .i64 ((i:Nat):Int)),(12,.pointer (some ⟨g12,0,none⟩))])) (Hx:=(fun y=>[.blk g12 54 (y.cells q),.row (.slice A1 i k1) 54 14 i xs,.blk g10 97 [.slice A1 i k1],.blk g8 97 [.slice none 0 0],.blk g7 70 e.use.cells,.blk g5 97 [.slice A l.length c0],.blk g4 29 [vc,ci f.op,ci f.n,sf]])) (p:=(fun y=>(useL l e (a6G f e.use))[i]'hltU=y∧RdS I15 q y.props)) ?_ ?_
  ·refine gS 7 32 (fun h32 p32=>?_) fun h32 p32=>?_
   ·refine go 11 ?_;refine o_v rfl (a0J (l[i].life.cells) m0 he rfl rfl rfl) ?_;refine go 2 ?_;refine cV (c6T _ vc f sf hf hvo l[i].life e.use) ?_;refine go 5 ?_;exact a1s (a5O (a6G f e.use) e.use l[i]) ⟨b7K hlt hns (by simp only[h20,h32,bS]),hq⟩ sb rfl rfl
   ·refine go 4 ?_;refine a0z rfl rfl h32 (a0x (d4f _ v15 ns q15 l[i].name) rfl rfl ?_);refine gC 3 (fun h37 p37=>?_) fun h37 p37=>?_
    ·refine go 3 ?_;refine o_v rfl (a0J (l[i].life.cells) m0 he rfl rfl rfl) ?_;refine go 2 ?_;refine cV (c6T _ vc f sf hf hvo l[i].life e.use) ?_;refine go 5 ?_;exact a1s (a5O (a6G f e.use) e.use l[i]) ⟨b7K hlt hns (by simp only[h20,h32,h37,bS]),hq⟩ sb rfl rfl
    ·refine go 2 ?_;exact a1s l[i] ⟨c9Y hlt hns (by simp only[h20,h32,h37,bS]),hq⟩ sb rfl rfl
  ·intro y ⟨hy,hyq⟩;refine go 6 fun v47=>?_
   refine go 1 ?_;refine a0c ?_;refine a0o he he rfl rfl (Enc.one (α:=Part) (x:=y) ⟨q,rfl,hyq⟩) rfl rfl oM oM rfl fun v48=>?_;refine a2I fun A48 c48 hv48=>?_;subst hv48;refine go 2 ?_;refine a0p ?_;refine go 10 ?_;refine a0c ?_;refine a0a ?_;refine a0c ?_;refine a0a ?_;refine a5P ?_;refine a5P ?_;refine a5P ?_;refine a5P ?_;refine a0A ?_;refine a5P ?_;exact a1k (i+1) (A48) (c48) (_) ⟨oM,by rw[←a0e hltU,hy];exact hF.append (.one ⟨_,rfl,hyq⟩)⟩ oM rfl sb rfl
 ·refine go 7 ?_;have e2:i=l.length:=oM;subst e2;rw[List.take_of_length_le (Nat.le_of_eq use_len)]at hF
  refine a0d (l:=(useL l e (a6G f e.use))) rfl use_len.symm hF fun J9 j9 R9=>?_;refine go 2 ?_;refine a0b ?_;refine go 5 ?_;exact q_i ⟨_,rfl,R9⟩
theorem d2t (I:IMap) (vc:Value) (c:List Kind) (hvc:RdS I vc c) (hsc:SmC c) (f:Fm) (sf:Value) (hf:FmRd I [ci f.op,ci f.n,sf] f) (v:Value) (l:List Evt) (hv:RdS I v l) (hl:l.length≤25) (hse:∀e∈l,SmE e) (day:Int) :
    FnI prog 34 #[.agg #[vc,ci f.op,ci f.n,sf],v,.int .i64 (day)] I (fun u J=>∃w,u = .tuple #[.agg #[w],.int .i64 (runL f c l day).2.1,.int .i64 (runL f c l day).2.2]∧RdS J w (runL f c l day).1):=by
 obtain⟨U,hUe⟩:∃U,a0Q (l.filter fun e=>!decide (e.day>day))=U:=⟨_,rfl⟩;have hUl:U.length≤25:=by rw[←hUe,a3X];exact Nat.le_trans (List.length_filter_le _ _) hl
 have hUs:∀e∈U,SmE e:=fun e he=>hse e (List.mem_filter.1 (a4B.1 (hUe▸he))).1
 refine enter func34 call34 rfl ntmps34 rfl fun w0=>?_;refine go 4 fun g3=>?_
 refine go 2 fun g6=>?_
 refine go 9 ?_;refine cV (b7o _ vc c hvc hsc f sf hf) ?_;refine gC 3 (fun h16 p16=>?_) fun h16 p16=>?_
 ·refine go 12 ?_;have hbad:(!a1a c || !a1p f)=true:=by simpa[Bool.not_and]using h16
  exact q_i ⟨_,by rw[a9b hbad],by rw[a9b hbad];exact RdS.nil'⟩
 ·have hok:(!a1a c || !a1p f)=false:=by simpa[Bool.not_and]using h16
  refine go 7 ?_;refine a0D (c9k _ v l hv oM day) rfl rfl fun v20 I20 j20 q20=>?_;have hvc:=hvc.le j20;have hf:=hf.le j20;refine go 1 ?_;refine a0D (b3Q _ _ (l.filter fun e=>!decide (e.day>day)) q20 (Nat.le_trans (List.length_filter_le _ _) oM)) rfl rfl fun v21 I21 j21 q21=>?_;have hvc:=hvc.le j21;have hf:=hf.le j21;rw[hUe]at q21
  obtain⟨A21,c21,rfl,hA21,_,_⟩:=q21;refine go 7 fun g10=>?_
  refine go 9 ?_
  refine a2C ((0:Nat)) ([]) (.slice none 0 0) (I21) (fun i st v10 J=>J)
   (fun i st v10 J=>[(3,.pointer (some ⟨g3,0,none⟩)),(6,.pointer (some ⟨g6,0,none⟩)),(9,.slice A21 U.length c21),(10,.pointer (some ⟨g10,0,none⟩)),(11,.int .i64 ((i:Nat):Int))])
   (fun i st v10 J=>[.blk g10 97 [v10],.blk g6 97 [.slice none 0 0],.blk g3 29 [vc,ci f.op,ci f.n,sf]])
   (fun i st v10 J=>i≤U.length∧ILe I21 J∧RdS J v10 st∧SmF st∧a9u st≤i∧runLGo f c st (i:Nat) (U.drop i)=runL f c l day)
   (fun i st v10 J=>U.length-i) ⟨Nat.zero_le _,ILe.refl _,RdS.nil',SmF.nil,Nat.le_refl _,by rw[c2u hok,hUe];rfl⟩ rfl sb rfl ?_
  intro i st v10 J ⟨hi,hJ,hv10,hsf,hcn,hgo⟩;have hvc:=hvc.le hJ;have hf:=hf.le hJ;have hA21:=hA21.le hJ;refine gC 9 (fun h25 p25=>?_) fun h25 p25=>?_
  ·have hlt:i<U.length:=oM;refine go 5 ?_;refine a3h fun hE8 hf8=>?_;refine go 1 ?_;refine dG 0 1 ?_;refine a0F 1 rfl rfl (by kernel_rfl) rfl (.refl _) rfl (a0J ([vc]) m2 he rfl rfl rfl) ?_;refine dG 2 3 ?_;obtain⟨b34,o34,w34,e34,c34,r34⟩:=RdA.at_ hA21 (i:=i) hlt;obtain rfl:=r34;refine dG 5 2 ?_;refine dT2 7 11 ?_ ?_
   ·refine a0D (a6v _ vc c hvc hsc v10 st hv10 hsf U[i] (hUs _ (List.getElem_mem hlt))) rfl rfl fun v36 I36 j36 q36=>?_;have hvc:=hvc.le j36;have hf:=hf.le j36;have hA21:=hA21.le j36;obtain⟨w36,rfl,hw36⟩:=q36;refine dH 8 3 ?_;refine go 1 fun g12=>?_
    refine dH 12 0 ?_;refine a1A _ he rfl rfl rfl rfl rfl (by simp[RdS.one hw36]) ?_;refine dG 13 1 ?_;refine gC 9 (fun h40 p40=>?_) fun h40 p40=>?_
    ·refine go 6 ?_;refine a0c ?_;refine go 13 ?_;have hr:runL f c l day=([],((i:Nat):Int),(a0f c st U[i]).2):=by rw[←hgo,b1T hlt p40]
     exact q_i ⟨_,by rw[hr]<;>rfl,by rw[hr];exact RdS.nil'⟩
    ·have h0:(a0f c st U[i]).2=0:=by simpa using h40
     have hsm:=a5b (c:=c) hsf (hUs _ (List.getElem_mem hlt));have hc1:=a9v h0;have hc2:(a0f c st U[i]).1.length≤i+1:=by unfold a9u at *;omega
     refine go 6 ?_;refine a0b ?_;refine a1A _ he rfl rfl rfl rfl rfl (by simp[RdS.one hw36]) ?_;refine go 6 ?_;obtain⟨b47,o47,w47,e47,c47,r47⟩:=RdA.at_ hA21 (i:=i) oM;obtain rfl:=r47;refine gC 6 (fun h50 p50=>?_) fun h50 p50=>?_
     ·refine a3h fun hE13 hf13=>?_;refine ds1 ?_;refine dG 0 1 ?_;refine dG 2 2 ?_;obtain⟨b55,o55,w55,e55,c55,r55⟩:=RdA.at_ hA21 (i:=i) oM;obtain rfl:=r55;refine dG 4 5 ?_;obtain⟨b60,o60,w60,e60,c60,r60⟩:=RdA.at_ hA21 (i:=i) oM;obtain rfl:=r60;refine dG 9 2 ?_;refine a0F 11 rfl rfl (by kernel_rfl) rfl (.cons _ (.refl _)) rfl (a2P he rfl (c60.sub 8 6) rfl) ?_;refine dH 1 0 ?_;refine a0k rfl (a4n m0 he rfl rfl) ?_;refine dH 12 0 ?_;refine a0D (c6S _ vc f sf hf hvc.one _ (a0f c st U[i]).1 hw36 oM U[i]) rfl rfl fun v63 I63 j63 q63=>?_;have hvc:=hvc.le j63;have hf:=hf.le j63;have hA21:=hA21.le j63;obtain⟨w63,rfl,hw63⟩:=q63;refine dH 13 0 ?_;refine a1A _ he rfl rfl rfl rfl rfl (by simp[RdS.one hw63]) ?_;refine go 10 ?_;refine a0b ?_;refine a0a ?_;exact a1k (i+1) (useL (a0f c st U[i]).1 U[i] (a6G f U[i].use)) (w63) (I63) ⟨oM,hJ.trans (j36.trans j63),hw63,c2W hsm,by rw[b4B];omega,(b4T hlt h0 p50).symm.trans hgo⟩ oM rfl sb rfl
     ·refine go 9 ?_;refine a0b ?_;refine a0a ?_;exact a1k (i+1) ((a0f c st U[i]).1) (w36) (I36) ⟨oM,hJ.trans j36,hw36,hsm,oM,(a9E hlt h0 p50).symm.trans hgo⟩ oM rfl sb rfl
   ·refine go 1 fun g12=>?_
    refine dH 7 0 ?_;refine a0D (a6v _ vc c hvc hsc v10 st hv10 hsf U[i] (hUs _ (List.getElem_mem hlt))) rfl rfl fun v36 I36 j36 q36=>?_;have hvc:=hvc.le j36;have hf:=hf.le j36;have hA21:=hA21.le j36;obtain⟨w36,rfl,hw36⟩:=q36;refine dG 8 3 ?_;refine dH 12 0 ?_;refine a1A _ he rfl rfl rfl rfl rfl (by simp[RdS.one hw36]) ?_;refine dG 13 1 ?_;refine gC 9 (fun h40 p40=>?_) fun h40 p40=>?_
    ·refine go 6 ?_;refine a0c ?_;refine go 13 ?_;have hr:runL f c l day=([],((i:Nat):Int),(a0f c st U[i]).2):=by rw[←hgo,b1T hlt p40]
     exact q_i ⟨_,by rw[hr]<;>rfl,by rw[hr];exact RdS.nil'⟩
    ·have h0:(a0f c st U[i]).2=0:=by simpa using h40
     have hsm:=a5b (c:=c) hsf (hUs _ (List.getElem_mem hlt));have hc1:=a9v h0;have hc2:(a0f c st U[i]).1.length≤i+1:=by unfold a9u at *;omega
     refine go 6 ?_;refine a0b ?_;refine a1A _ he rfl rfl rfl rfl rfl (by simp[RdS.one hw36]) ?_;refine go 6 ?_;obtain⟨b47,o47,w47,e47,c47,r47⟩:=RdA.at_ hA21 (i:=i) oM;obtain rfl:=r47;refine gC 6 (fun h50 p50=>?_) fun h50 p50=>?_
     ·refine a3h fun hE13 hf13=>?_;refine ds1 ?_;refine dG 0 1 ?_;refine dG 2 2 ?_;obtain⟨b55,o55,w55,e55,c55,r55⟩:=RdA.at_ hA21 (i:=i) oM;obtain rfl:=r55;refine dG 4 5 ?_;obtain⟨b60,o60,w60,e60,c60,r60⟩:=RdA.at_ hA21 (i:=i) oM;obtain rfl:=r60;refine dG 9 2 ?_;refine a0F 11 rfl rfl (by kernel_rfl) rfl (.cons _ (.refl _)) rfl (a2P he rfl (c60.sub 8 6) rfl) ?_;refine dH 1 0 ?_;refine a0k rfl (a4n m0 he rfl rfl) ?_;refine dH 12 0 ?_;refine a0D (c6S _ vc f sf hf hvc.one _ (a0f c st U[i]).1 hw36 oM U[i]) rfl rfl fun v63 I63 j63 q63=>?_;have hvc:=hvc.le j63;have hf:=hf.le j63;have hA21:=hA21.le j63;obtain⟨w63,rfl,hw63⟩:=q63;refine dH 13 0 ?_;refine a1A _ he rfl rfl rfl rfl rfl (by simp[RdS.one hw63]) ?_;refine go 10 ?_;refine a0b ?_;refine a0a ?_;exact a1k (i+1) (useL (a0f c st U[i]).1 U[i] (a6G f U[i].use)) (w63) (I63) ⟨oM,hJ.trans (j36.trans j63),hw63,c2W hsm,by rw[b4B];omega,(b4T hlt h0 p50).symm.trans hgo⟩ oM rfl sb rfl
     ·refine go 9 ?_;refine a0b ?_;refine a0a ?_;exact a1k (i+1) ((a0f c st U[i]).1) (w36) (I36) ⟨oM,hJ.trans j36,hw36,hsm,oM,(a9E hlt h0 p50).symm.trans hgo⟩ oM rfl sb rfl
  ·refine go 9 ?_;refine a0b ?_;refine a1A _ he rfl rfl rfl rfl rfl (by simp[RdS.one hv10]) ?_;refine go 6 ?_;have hr:runL f c l day=(st,-1,0):=by rw[←hgo,c0Q oM]
   exact q_i ⟨_,by rw[hr]<;>rfl,by rw[hr];exact hv10⟩
theorem d2s (I:IMap) (s:ByteArray) :
    FnV prog 21 #[.string s] I (.bool (a5x s)):=by
 refine enter func21 call21 rfl ntmps21 rfl fun w0=>?_;refine gS 10 5 (fun h5 p5=>?_) fun h5 p5=>?_
 ·refine go 20 ?_;exact q_v (congrArg Value.bool (by rw[←a5U];show _=((((decide (s=(⟨#[107,109]⟩:ByteArray))||decide (s=(⟨#[99,121,99,108,101,115]⟩:ByteArray)))||decide (s=(⟨#[100,97,109,97,103,101]⟩:ByteArray)))||decide (s=(⟨#[100,97,121,115]⟩:ByteArray)))||decide (s=(⟨#[97,103,101]⟩:ByteArray)));simp only[h5,bS]))
 ·refine gS 4 9 (fun h9 p9=>?_) fun h9 p9=>?_
  ·refine go 16 ?_;exact q_v (congrArg Value.bool (by rw[←a5U];show _=((((decide (s=(⟨#[107,109]⟩:ByteArray))||decide (s=(⟨#[99,121,99,108,101,115]⟩:ByteArray)))||decide (s=(⟨#[100,97,109,97,103,101]⟩:ByteArray)))||decide (s=(⟨#[100,97,121,115]⟩:ByteArray)))||decide (s=(⟨#[97,103,101]⟩:ByteArray)));simp only[h5,h9,bS]))
  ·refine gS 4 13 (fun h13 p13=>?_) fun h13 p13=>?_
   ·refine go 12 ?_;exact q_v (congrArg Value.bool (by rw[←a5U];show _=((((decide (s=(⟨#[107,109]⟩:ByteArray))||decide (s=(⟨#[99,121,99,108,101,115]⟩:ByteArray)))||decide (s=(⟨#[100,97,109,97,103,101]⟩:ByteArray)))||decide (s=(⟨#[100,97,121,115]⟩:ByteArray)))||decide (s=(⟨#[97,103,101]⟩:ByteArray)));simp only[h5,h9,h13,bS]))
   ·refine gS 4 17 (fun h17 p17=>?_) fun h17 p17=>?_
    ·refine go 8 ?_;exact q_v (congrArg Value.bool (by rw[←a5U];show _=((((decide (s=(⟨#[107,109]⟩:ByteArray))||decide (s=(⟨#[99,121,99,108,101,115]⟩:ByteArray)))||decide (s=(⟨#[100,97,109,97,103,101]⟩:ByteArray)))||decide (s=(⟨#[100,97,121,115]⟩:ByteArray)))||decide (s=(⟨#[97,103,101]⟩:ByteArray)));simp only[h5,h9,h13,h17,bS]))
    ·refine go 8 ?_;exact q_v (congrArg Value.bool (by rw[←a5U];show _=((((decide (s=(⟨#[107,109]⟩:ByteArray))||decide (s=(⟨#[99,121,99,108,101,115]⟩:ByteArray)))||decide (s=(⟨#[100,97,109,97,103,101]⟩:ByteArray)))||decide (s=(⟨#[100,97,121,115]⟩:ByteArray)))||decide (s=(⟨#[97,103,101]⟩:ByteArray)));simp only[h5,h9,h13,h17,bS]))
theorem c5l (I:IMap) (p:Part) (q:Value) (hq:q.oneCell'=true) (s:ByteArray) (day:Int) :
    FnV prog 22 #[.agg (p.cells q).toArray,.string s,.int .i64 (day)] I (.tuple #[.agg (a5q p s day).1.cells.toArray,.int .i64 ((a5q p s day).2)]):=by
 refine enter func22 call22 rfl ntmps22 rfl fun w0=>?_;refine go 4 fun g3=>?_
 refine go 2 fun g6=>?_
 refine go 8 ?_;refine cV (d2s _ s) ?_;refine gC 3 (fun h12 p12=>?_) fun h12 p12=>?_
 ·refine go 11 ?_;exact q_v (by rw[b7R (by simpa using h12)]<;>rfl)
 ·have hcu:a5x s=true:=by simpa using h12
  refine go 4 ?_;refine a1h (I':=I) (L':=[(1,.string s),(2,.int .i64 (day)),(3,.pointer (some ⟨g3,0,none⟩)),(6,.pointer (some ⟨g6,0,none⟩)),(19,.bool (decide (day<0)||decide (day>40000)))]) (H':=[.blk g6 34 [.int .i64 (0),.int .i64 (0)],.blk g3 54 (p.cells q)]) ?_ ?_
  ·refine gS 4 16 (fun h16 p16=>?_) fun h16 p16=>?_
   ·refine go 5 ?_;exact a0h ⟨rfl,rfl,rfl,rfl,(bB (by simp only[h12,h16,bS])),trivial⟩ rfl rfl
   ·refine go 5 ?_;exact a0h ⟨rfl,rfl,rfl,rfl,(bB (by simp only[h12,h16,bS])),trivial⟩ rfl rfl
  ·refine gC 0 (fun h19 p19=>?_) fun h19 p19=>?_
   ·refine go 11 ?_;exact q_v (by rw[b4k hcu h19]<;>rfl)
   ·have hd:0≤day∧day≤40000:=by simp at h19;omega
    refine gC 15 (fun h22 p22=>?_) fun h22 p22=>?_
    ·refine go 4 ?_;refine o_v rfl (a0J (p.life.km.cells) m1 he rfl rfl rfl) ?_;refine go 9 ?_;exact q_v (by rw[a5r hcu h19];unfold b4o;rw[if_pos (show s=sKm from p22)]<;>rfl)
    ·refine gC 6 (fun h27 p27=>?_) fun h27 p27=>?_
     ·refine go 4 ?_;refine o_v rfl (a0J (p.life.cycles.cells) m1 he rfl rfl rfl) ?_;refine go 9 ?_;exact q_v (by rw[a5r hcu h19];unfold b4o;rw[if_neg (show ¬s=sKm from p22),if_pos (show s=a1S from p27)]<;>rfl)
     ·refine gC 6 (fun h32 p32=>?_) fun h32 p32=>?_
      ·refine go 4 ?_;refine o_v rfl (a0J (p.life.damage.cells) m1 he rfl rfl rfl) ?_;refine go 9 ?_;exact q_v (by rw[a5r hcu h19];unfold b4o;rw[if_neg (show ¬s=sKm from p22),if_neg (show ¬s=a1S from p27),if_pos (show s=a2c from p32)]<;>rfl)
      ·refine go 11 ?_;refine a3O (α:=Int) (Ix:=(fun a=>I)) (Lx:=(fun a=>[(2,.int .i64 (day)),(6,.pointer (some ⟨g6,0,none⟩)),(8,.int .i64 (a))])) (Hx:=(fun a=>[.blk g6 34 [.int .i64 (0),.int .i64 (0)],.blk g3 54 (p.cells q)])) (p:=(fun a=>b4o p s day=a5J day a)) ?_ ?_
       ·refine gC 6 (fun h40 p40=>?_) fun h40 p40=>?_
        ·refine go 6 ?_;exact a1s p.since (by rw[b2U (show ¬s=sKm from p22) (show ¬s=a1S from p27) (show ¬s=a2c from p32),if_pos (show s=a6f from p40)]) sb rfl rfl
        ·refine go 2 ?_;exact a1s p.made (by rw[b2U (show ¬s=sKm from p22) (show ¬s=a1S from p27) (show ¬s=a2c from p32),if_neg (show ¬s=a6f from p40)]) sb rfl rfl
       ·intro a hca;refine go 6 ?_;refine a3O (α:=Int) (Ix:=(fun n=>I)) (Lx:=(fun n=>[(6,.pointer (some ⟨g6,0,none⟩)),(9,.int .i64 (n))])) (Hx:=(fun n=>[.blk g6 34 [.int .i64 (0),.int .i64 (0)],.blk g3 54 (p.cells q)])) (p:=(fun n=>a5J day a=⟨n,n⟩)) ?_ ?_
        ·refine gC 8 (fun h46 p46=>?_) fun h46 p46=>?_
         ·refine go 4 ?_;exact a1s 1000000000000 (b0h day a _ oM) sb rfl rfl
         ·refine gC 7 (fun h49 p49=>?_) fun h49 p49=>?_
          ·refine go 7 ?_;exact a1s (day-a) (b0h day a _ oM) sb rfl rfl
          ·refine go 2 ?_;exact a1s 0 (b0h day a _ oM) sb rfl rfl
        ·intro n hn;refine go 12 ?_;exact q_v (by rw[a5r hcu h19,hca,hn]<;>rfl)
end Go.Proofs.YtkndpfncklhhlaaGreat
set_option linter.all false
namespace Go.Sx
open Go
structure Dut where
 name:ByteArray
 kind:ByteArray
 key:ByteArray
 after:Int
 within:Int
 deriving DecidableEq
structure Due where
 part:ByteArray
 rule:ByteArray
 day:Int
 deriving DecidableEq
def Dut.cells (d:Dut):List Value:=[.string d.name,.string d.kind,.string d.key,ci d.after,ci d.within]
def Due.cells (d:Due):List Value:=[.string d.part,.string d.rule,ci d.day]
instance:Enc Dut where
 k:=5
 rd _ vs x:=vs=x.cells
 len h:=by rw[h];rfl
 mono _ h:=h
 one h:=by rw[h];rfl
instance:Enc Due where
 k:=3
 rd _ vs x:=vs=x.cells
 len h:=by rw[h];rfl
 mono _ h:=h
 one h:=by rw[h];rfl
section
variable {α:Type} [DecidableEq α] {lt:α→α→Bool}
def SrtU (lt:α→α→Bool) (l:List α):Prop:=l.Pairwise fun a b=>lt a b=true
theorem SrtU.uniq (hi:∀a,lt a a=false) (htr:∀a b c,lt a b=true→lt b c=true→lt a c=true):∀{l m:List α},SrtU lt l→SrtU lt m→(∀z,z∈l↔z∈m)→l=m
 | [],[],_,_,_=>rfl
 | [],y::m,_,_,h=>by have:=(h y).2 (by simp);cases this
 |x::l,[],_,_,h=>by have:=(h x).1 (by simp);cases this
 |x::l,y::m,h1,h2,h=>by
  obtain⟨a1,b1⟩:=List.pairwise_cons.1 h1;obtain⟨a2,b2⟩:=List.pairwise_cons.1 h2
  have e:x=y:=by
   rcases List.mem_cons.1 ((h x).1 (by simp)) with e|hx
   ·exact e
   rcases List.mem_cons.1 ((h y).2 (by simp)) with e|hy
   ·exact e.symm
   ·have:=htr _ _ _ (a1 y hy) (a2 x hx);rw[hi]at this;cases this
  subst e;have hn1:x∉l:=fun hm=>by have:=a1 x hm;rw[hi]at this;cases this
  have hn2:x∉m:=fun hm=>by have:=a2 x hm;rw[hi]at this;cases this
  rw[SrtU.uniq hi htr b1 b2 fun z=>?_]
  constructor
  ·intro hz
   rcases List.mem_cons.1 ((h z).1 (by simp[hz])) with rfl|hz2
   ·exact absurd hz hn1
   ·exact hz2
  ·intro hz
   rcases List.mem_cons.1 ((h z).2 (by simp[hz])) with rfl|hz2
   ·exact absurd hz hn2
   ·exact hz2
theorem SrtU.nodup (hi:∀a,lt a a=false) {l:List α} (h:SrtU lt l):l.Nodup:=by
 rw[List.nodup_iff_pairwise_ne];exact h.imp fun h1 e=>by subst e;rw[hi]at h1;cases h1
end
def b0U:List Int→Option Int
 | []=>none
 |x::l=>some (l.foldl min x)
section
variable {ds:List Dut} {c:List Kind} {l:List Evt} {p:ByteArray} {day:Int}
end
end Go.Sx
set_option linter.all false
namespace Go.Sx
open Go
section
variable {c:List Kind} {l:List Rep} {t:List Int} {E:List Evt} {day:Int} {s:List Part}
end
def nmB (r:Rep) (z:ByteArray):Bool:=a0l r&&r.options.any fun e=>decide (z∈a1J e)
theorem a6T {r:Rep} {z:ByteArray}:nmB r z=true↔nm r z:=by
 simp[nmB,nm,List.any_eq_true]
def b0O (l:List Rep) (p:ByteArray):Option Nat:=(List.range l.length).find? fun i=>((l[i]?).map fun r=>nmB r p).getD false
def ofN (l:List Rep) (R:Nat→Nat) (p:ByteArray):List Nat:=match b0O l p with
 |some k=>a1U R l.length (R k)
 |none=>[]
def a1e (l:List Rep) (R:Nat→Nat) (p:ByteArray):List Rep:=a5i l (ofN l R p)
section
variable {l:List Rep} {R:Nat→Nat} {p q:ByteArray} {k:Nat}
theorem b4Q (h:b0O l p=some k):∃hk:k<l.length,nm l[k] p:=by
 unfold b0O at h
 have h1:=List.mem_range.1 (List.mem_of_find?_eq_some h);have h2:=List.find?_some h
 simp only[List.getElem?_eq_getElem h1,Option.map_some,Option.getD_some]at h2
 exact⟨h1,a6T.1 h2⟩
theorem a9A:b0O l p=none↔∀k (hk:k<l.length),¬nm l[k] p:=by
 unfold b0O;rw[List.find?_eq_none]
 constructor
 ·intro h k hk hn;have:=h k (List.mem_range.2 hk)
  simp only[List.getElem?_eq_getElem hk,Option.map_some,Option.getD_some]at this
  exact this (a6T.2 hn)
 ·intro h k hk;have hk:=List.mem_range.1 hk
  simp only[List.getElem?_eq_getElem hk,Option.map_some,Option.getD_some]
  intro hn;exact h k hk (a6T.1 hn)
theorem b5i (hR:Rts l R) (hk:k<l.length) (h:nm l[k] p):ofN l R p=a1U R l.length (R k):=by
 unfold ofN
 cases hf:b0O l p with
 |none=>exact absurd h (a9A.1 hf k hk)
 |some j=>
  obtain⟨hj,hn⟩:=b4Q hf
  show a1U R l.length (R j)=_
  rw[hR.share hj hk hn h]
theorem b5h (h:∀k (hk:k<l.length),¬nm l[k] p):ofN l R p=[]:=by unfold ofN;rw[a9A.2 h]
theorem b8E {i:Nat} (h:i∈ofN l R p):i<l.length:=by
 unfold ofN at h
 split at h
 ·exact c1y h
 ·cases h
theorem c8R (hR:Rts l R):a1e l R p=[]↔ofN l R p=[]:=by
 unfold a1e
 constructor
 ·intro h;have h1:=a5j (l:=l) (C:=ofN l R p) fun i hi=>b8E hi
  rw[h]at h1
  exact List.eq_nil_of_length_eq_zero h1.symm
 ·intro h;rw[h];rfl
theorem a5Z {r:Rep} (h:r∈a1e l R p):r∈l:=c2a h
theorem a6U:(a1e l R p).length≤l.length:=by
 unfold a1e;rw[a5j fun i hi=>b8E hi]
 have h1:(ofN l R p).length≤(List.range l.length).length:=by
  unfold ofN
  split
  ·exact List.length_filter_le _ _
  ·simp
 simpa using h1
end
end Go.Sx
set_option linter.all false
namespace Go.Sx
open Go
structure Plc where
 into:ByteArray
 slot:ByteArray
 deriving DecidableEq
def Plc.cells (x:Plc):List Value:=[.string x.into,.string x.slot]
instance:Enc Plc where
 k:=2
 rd _ vs x:=vs=x.cells
 len h:=by rw[h];rfl
 mono _ h:=h
 one h:=by rw[h];rfl
def c8S (s:List Part) (p:ByteArray):Part:=(a0C s p).getD zPart
def c8W (p:ByteArray) (s:List Part):Plc:=⟨(c8S s p).into,(c8S s p).slot⟩
def b9r (c:List Kind) (l own:List Rep):Int:=
 if a1a c=false then 1 else if l.any (fun r=>!a0l r)=true then 1 else if own=[] then 2 else if (a1Y c own 4096).2≠0 then (a1Y c own 4096).2 else if (a1Y c own 4096).1.length=4096 then 7 else 0
section
variable {c:List Kind} {s a b:List Part} {p:ByteArray} {q:Part} {D:ByteArray→Bool}
theorem Spl.place (h:Spl D s a b) (hp:D p=true):c8W p s=c8W p a:=by unfold c8W c8S;rw[h.find hp]
end
end Go.Sx
set_option linter.all false
namespace Go.Sx
open Go
section
variable {c:List Kind} {l own:List Rep} {R:Nat→Nat} {p q y z:ByteArray} {day:Int} {α β:Type} [DecidableEq α] [DecidableEq β] {lt:α→α→Bool} {lt':β→β→Bool} {f:List Part→α} {g:List Part→β} {s:List Part}
theorem b1D:l.any (fun r=>!a0l r)=false↔∀r∈l,a0l r=true:=by
 rw[List.any_eq_false];exact⟨fun h r hr=>by simpa using h r hr,fun h r hr=>by simp[h r hr]⟩
end
end Go.Sx
set_option linter.all false
namespace Go.Sx
open Go
section
variable {l:List Rep} {R:Nat→Nat} {p:ByteArray} {k:Nat}
theorem c7p (hR:Rts l R) (h:∀i,i<l.length→R i=R 0) (hk:k<l.length) (hn:nm l[k] p):a1e l R p=l:=by
 have e:a1U R l.length (R k)=List.range l.length:=List.filter_eq_self.2 fun i hi=>decide_eq_true (by rw[h i (List.mem_range.1 hi),h k hk])
 unfold a1e;rw[b5i hR hk hn,e,b5q]
end
section
variable {α:Type} [DecidableEq α] {lt:α→α→Bool}
end
end Go.Sx
set_option linter.all false
namespace Go.Sx
open Go
def Due.eqB (a b:Due):Bool:=decide (a.part=b.part)&&(decide (a.rule=b.rule)&&(decide (a.day=b.day)&&true))
theorem Due.eqB_eq (a b:Due):Due.eqB a b=decide (a=b):=by
 cases a;cases b;simp[Due.eqB]
structure Fn1 where
 k:FuncId
 cs:List Value
def Fn1.val (f:Fn1):Value:=.func (.func f.k) #[] f.cs.toArray
instance:Enc Fn1 where
 k:=1
 rd _ vs x:=vs=[x.val]
 len h:=by rw[h];rfl
 mono _ h:=h
 one h:=by rw[h];rfl
def LeastIs (l:List Int) (m:Int) (fd:Bool):Prop:=b0U l=(if fd=true then some m else none)∧(fd=false→m=0)
theorem LeastIs.nil:LeastIs [] 0 false:=⟨rfl,fun _=>rfl⟩
theorem b5b (l:List Int) (x:Int):b0U (l++[x])=some (match b0U l with|none=>x|some m=>min m x):=by
 cases l with
 |nil=>rfl
 |cons y l=>simp[b0U,List.foldl_append]
section
variable {l:List Int} {m x:Int} {fd:Bool}
theorem LeastIs.more (h:LeastIs l m true) (hc:¬x<m):LeastIs (l++[x]) m true:=by
 refine⟨?_,fun h=>by cases h⟩;rw[b5b,h.1]
 show some (min m x)=some m
 rw[Int.min_eq_left oM]
theorem LeastIs.val (h:LeastIs l m fd):m=(b0U l).getD 0∧fd=(b0U l).isSome:=by
 cases fd with
 |false=>rw[h.1];exact⟨h.2 rfl,rfl⟩
 |true=>rw[h.1];exact⟨rfl,rfl⟩
end
theorem a7v {κ:Type} [DecidableEq κ] {k x:κ} {v:Value}:∀{kvs:List (κ×Value)},x∈(a5I kvs k v).map Prod.fst↔x=k∨x∈kvs.map Prod.fst
 | []=>by simp[a5I]
 |(k',u)::r=>by
  simp only[a5I]
  split
  ·rename_i h;subst h;simp
  ·simp only[List.map_cons,List.mem_cons,a7v (kvs:=r)]
   constructor
   ·rintro (h|h|h)
    ·exact .inr (.inl h)
    ·exact .inl h
    ·exact .inr (.inr h)
   ·rintro (h|h|h)
    ·exact .inr (.inl h)
    ·exact .inl h
    ·exact .inr (.inr h)
theorem b2f {κ:Type} [DecidableEq κ] {k:κ} {v:Value}:∀{kvs:List (κ×Value)},(kvs.map Prod.fst).Nodup→((a5I kvs k v).map Prod.fst).Nodup
 | [],_=>by simp[a5I]
 |(k',u)::r,h=>by
  obtain⟨h1,h2⟩:=List.nodup_cons.1 h
  simp only[a5I]
  split
  ·exact h
  ·rename_i hne
   refine List.nodup_cons.2 ⟨fun hm=>?_,b2f h2⟩
   rcases a7v.1 hm with e|hm
   ·exact hne e
   ·exact h1 hm
def KeysD (kvs:List (Due×Value)) (L:List Due):Prop:=(kvs.map Prod.fst).Nodup∧∀x,x∈kvs.map Prod.fst↔x∈L
theorem KeysD.nil:KeysD [] []:=⟨List.nodup_nil,fun x=>Iff.rfl⟩
section
variable {kvs:List (Due×Value)} {F:Dut→Option Due} {ds:List Dut} {i:Nat}
theorem KeysD.none (h:KeysD kvs ((ds.take i).filterMap F)) (hi:i<ds.length) (h0:F ds[i] = .none):KeysD kvs ((ds.take (i+1)).filterMap F):=by
 rw[←a0e hi,List.filterMap_append]
 simpa[h0]using h
theorem KeysD.some {x:Due} {v:Value} (h:KeysD kvs ((ds.take i).filterMap F)) (hi:i<ds.length) (h0:F ds[i] = .some x):KeysD (a5I kvs x v) ((ds.take (i+1)).filterMap F):=by
 rw[←a0e hi,List.filterMap_append];refine⟨b2f h.1,fun z=>?_⟩;rw[a7v,h.2,List.mem_append]
 simp[h0,or_comm]
end
section
variable {c:List Kind} {l:List Evt} {p:ByteArray} {day:Int} {ds:List Dut} {d:Dut} {k:ByteArray}
end
section
variable {d:Dut} {l:List Evt} {p:ByteArray} {day:Int}
end
end Go.Sx
set_option linter.all false
namespace Go.Sx
open Go
section
variable {α:Type} [Inhabited α] {w:World} {g t:Nat} {cur:Array Value}
end
def SrtP (l m:List ByteArray):Prop:=m.Perm l∧m.Pairwise fun a b=>sLt b a=false
section
variable {P:Program} {f:FuncId} {I:IMap}
end
end Go.Sx
set_option linter.all false
namespace Go.Sx
open Go
instance:Inhabited Due:=⟨⟨a1b,a1b,0⟩⟩
theorem KeysD.len {kvs:List (Due×Value)} {L:List Due} (h:KeysD kvs L):kvs.length≤L.length:=by
 have:=h.1.length_le_of_subset (l₂:=L) fun x hx=>(h.2 x).1 hx
 rwa[List.length_map]at this
section
variable {ds:List Dut} {c:List Kind} {l:List Evt} {p:ByteArray} {day:Int} {kvs done:List (Due×Value)}
end
def KeysN (kvs:List (ByteArray×Value)) (L:List ByteArray):Prop:=(kvs.map Prod.fst).Nodup∧∀x,x∈kvs.map Prod.fst↔x∈L
theorem KeysN.nil:KeysN [] []:=⟨List.nodup_nil,fun x=>Iff.rfl⟩
def b2c (day:Int) (done:List (Due×Value)):List ByteArray:=((done.map Prod.fst).filter fun x=>decide (x.day<day)).map Due.rule
theorem KeysN.yes {day:Int} {done:List (Due×Value)} {e:Due×Value} {ns:List (ByteArray×Value)} {v:Value} (h:KeysN ns (b2c day done)) (hd:e.1.day<day):KeysN (a5I ns e.1.rule v) (b2c day (done++[e])):=
 ⟨b2f h.1,fun x=>by rw[a7v,h.2];simp[b2c,hd,or_comm]⟩
theorem KeysN.no {day:Int} {done:List (Due×Value)} {e:Due×Value} {ns:List (ByteArray×Value)} (h:KeysN ns (b2c day done)) (hd:¬e.1.day<day):KeysN ns (b2c day (done++[e])):=
 ⟨h.1,fun x=>by rw[h.2];simp[b2c,hd]⟩
theorem KeysN.len {day:Int} {done:List (Due×Value)} {ns:List (ByteArray×Value)} (h:KeysN ns (b2c day done)):ns.length≤done.length:=by
 have h1:=h.1.length_le_of_subset (l₂:=b2c day done) fun x hx=>(h.2 x).1 hx
 rw[List.length_map]at h1
 refine Nat.le_trans h1 ?_;unfold b2c;rw[List.length_map];exact Nat.le_trans (List.length_filter_le _ _) (by rw[List.length_map];exact Nat.le_refl _)
section
variable {ds:List Dut} {c:List Kind} {l:List Evt} {p:ByteArray} {day:Int} {kvs done:List (Due×Value)} {ns:List (ByteArray×Value)}
end
theorem SrtP.perm {l l' m:List ByteArray} (h:SrtP l m) (hp:l.Perm l'):SrtP l' m:=⟨h.1.trans hp,h.2⟩
section
variable {P:Program} {f:FuncId} {args:Array Value} {v:Value}
end
end Go.Sx
set_option linter.all false
namespace Go.Sx
open Go
section
variable {κ:Type} [DecidableEq κ]
def KeysG (kvs:List (κ×Value)) (L:List κ):Prop:=(kvs.map Prod.fst).Nodup∧∀x,x∈kvs.map Prod.fst↔x∈L
theorem KeysG.nil:KeysG ([]:List (κ×Value)) []:=⟨List.nodup_nil,fun x=>Iff.rfl⟩
theorem KeysG.put {kvs:List (κ×Value)} {L:List κ} {x:κ} {v:Value} (h:KeysG kvs L):KeysG (a5I kvs x v) (L++[x]):=
 ⟨b2f h.1,fun z=>by rw[a7v,h.2,List.mem_append,List.mem_singleton,or_comm]⟩
theorem KeysG.one {kvs:List (κ×Value)} {L m:List κ} {v:Value} (h:KeysG kvs L) (h1:m.length=1):KeysG (a5I kvs (m[0]'oM) v) (L++m):=by
 match m,h1 with
 | [x],_=>exact h.put
theorem KeysG.zero {kvs:List (κ×Value)} {L m:List κ} (h:KeysG kvs L) (h0:¬((m.length:Nat):Int)=1) (hle:m.length≤1):KeysG kvs (L++m):=by
 match m with
 | []=>rw[List.append_nil];exact h
 | [x]=>exact absurd rfl h0
end
section
variable {ds:List Dut} {c:List Kind} {l:List Evt} {p:ByteArray} {day:Int} {i:Nat}
end
end Go.Sx
set_option linter.all false
namespace Go.Sx
open Go
def Plc.eqB (a b:Plc):Bool:=decide (a.into=b.into)&&(decide (a.slot=b.slot)&&true)
theorem Plc.eqB_eq (a b:Plc):Plc.eqB a b=decide (a=b):=by
 cases a;cases b;simp[Plc.eqB]
instance:Inhabited Plc:=⟨⟨a1b,a1b⟩⟩
theorem d1L (a b:List Nat):nI (a++b)=nI a++nI b:=by simp[nI]
theorem c2c {l:List Rep} {C:List Nat} {i:Nat} (hi:i<C.length) (h:C[i]<l.length):a5i l (C.take (i+1))=a5i l (C.take i)++[l[C[i]]]:=by
 rw[←a0e hi,a8t,a6r h];rfl
theorem KeysG.len {κ:Type} [DecidableEq κ] {kvs:List (κ×Value)} {L:List κ} (h:KeysG kvs L):kvs.length≤L.length:=by
 have h1:(kvs.map Prod.fst).length≤L.length:=List.Nodup.length_le_of_subset h.1 fun x hx=>(h.2 x).1 hx
 simpa using h1
section
variable {κ:Type} {pre:List κ} {todo a b kvs:List (κ×Value)} {e:κ×Value}
end
section
variable {c:List Kind} {own:List Rep} {p:ByteArray} {day:Int} {all:List (List Int)} {i:Nat}
end
theorem d0Y {c:List Kind} {l own:List Rep} (h:a1a c=true) (h2:l.any (fun r=>!a0l r)=true):b9r c l own=1:=by unfold b9r;rw[if_neg (by simp[h]),if_pos h2]
theorem c6z {c:List Kind} {l own:List Rep} (h:a1a c=true) (h2:l.any (fun r=>!a0l r)=false) (h3:own=[]):b9r c l own=2:=by unfold b9r;rw[if_neg (by simp[h]),if_neg (by simp[h2]),if_pos h3]
theorem c6A {c:List Kind} {l own:List Rep} (h:a1a c=true) (h2:l.any (fun r=>!a0l r)=false) (h3:own≠[]):b9r c l own=if (a1Y c own 4096).2≠0 then (a1Y c own 4096).2 else if (a1Y c own 4096).1.length=4096 then 7 else 0:=by unfold b9r;rw[if_neg (by simp[h]),if_neg (by simp[h2]),if_neg h3]
section
variable {s:List Part} {q:ByteArray} {i:Nat} {y z:ByteArray}
end
end Go.Sx
set_option linter.all false
namespace Go.Sx
open Go
section
variable {c:List Kind} {f:Fm} {st:List Part} {l:List Evt} {p:Part} {e:Evt} {d:Ivl}
theorem c2T (hi:Inc Part.name st):Inc Part.name (useL st e d):=by
 unfold useL Inc;rw[List.pairwise_map];refine List.Pairwise.imp (fun {a b} h=>?_) hi
 split<;>split<;>exact h
end
section
variable {p:Part} {s:ByteArray} {d:Int}
theorem c6d (h:a5x s=true) (hd:0≤d∧d≤40000):a5q p s d=(b4o p s d,0):=a5r h (by simp;omega)
end
end Go.Sx
set_option linter.all false
namespace Go.Sx
open Go
noncomputable def runsL (f:Fm) (c:List Kind):List Part→List Evt→Option (List Part)
 |st,[]=>some st
 |st,e::l=>if (a0f c st e).2=0 then runsL f c (applyL f c st e).1 l else none
section
variable {f:Fm} {c:List Kind} {D:ByteArray→Bool} {s a b:List Part} {d:Ivl} {v n:ByteArray}
theorem c7b (h:Spl D s a b) (hn:D n=true):upP s n=upP a n∧(upP a n=a1b∨D (upP a n)=true):=by
 refine⟨by unfold upP;rw[h.find hn],?_⟩;unfold upP
 cases hq:a0C a n with
 |none=>exact .inl rfl
 |some q=>exact (h.na q ((a1T h.ia).1 hq).1).2
theorem b7q (h:Spl D s a b):∀(k:Nat) (n:ByteArray),D n=true→a2Y s v k n=a2Y a v k n
 |0,_,_=>rfl
 |k+1,n,hn=>by
  obtain⟨h1,h2⟩:=c7b h hn
  simp only[a2Y,h1]
  rcases h2 with h2|h2
  ·simp[h2]
  ·rw[b7q h k _ h2]
theorem b3N (h:Spl D s a b) (hv:D v=true):∀(k:Nat) (n:ByteArray),D n=false→a2Y s v k n=false
 |0,_,_=>rfl
 |k+1,n,hn=>by
  obtain⟨h1,h2⟩:=c7b h.turn (n:=n) (by simpa using hn)
  simp only[a2Y]
  rcases h2 with h2|h2
  ·rw[h1,h2];simp
  ·have h3:D (upP s n)=false:=by rw[h1];simpa using h2
   rw[b3N h hv k _ h3];have:¬upP s n=v:=fun e=>by rw[e,hv]at h3;cases h3
   simp[this]
theorem d1x (h:Spl D s a b) (hv:D v=true) (hn:D n=true):a8E s v n↔a8E a v n:=by
 unfold a8E;rw[h.find hv,h.find hn];refine and_congr_right fun _=>exists_congr fun k=>?_
 rw[b7q h k n hn]
theorem c8v (h:Spl D s a b) (hv:D v=true) (hn:D n=false):¬a8E s v n:=fun ⟨_,k,hk⟩=>by rw[b3N h hv k n hn]at hk;cases hk
theorem Spl.use (h:Spl D s a b) {e:Evt} (hv:D e.part=true):Spl D (useL s e d) (useL a e d) b:=by
 have hA:∀y∈a,(y.name=e.part∨a8E s e.part y.name)↔(y.name=e.part∨a8E a e.part y.name):=fun y hy=>by rw[d1x h hv (h.na y hy).1]
 have hB:∀y∈b,¬(y.name=e.part∨a8E s e.part y.name):=fun y hy=>by
  have hd:=(h.nb y hy).1;rintro (h1|h1)
  ·rw[h1,hv]at hd;cases hd
  ·exact c8v h hv hd h1
 refine⟨c2T h.is,c2T h.ia,h.ib,fun x=>?_,fun x hx=>?_,h.nb⟩
 ·unfold useL;rw[List.mem_map,List.mem_map]
  constructor
  ·rintro⟨y,hy,rfl⟩
   rcases (h.mem y).1 hy with hy|hy
   ·refine .inl ⟨y,hy,?_⟩
    by_cases h1:y.name=e.part∨a8E s e.part y.name
    ·rw[if_pos h1,if_pos ((hA y hy).1 h1)]
    ·rw[if_neg h1,if_neg (fun h2=>h1 ((hA y hy).2 h2))]
   ·rw[if_neg (hB y hy)];exact .inr hy
  ·rintro (⟨y,hy,rfl⟩|hx)
   ·refine⟨y,(h.mem y).2 (.inl hy),?_⟩
    by_cases h1:y.name=e.part∨a8E s e.part y.name
    ·rw[if_pos h1,if_pos ((hA y hy).1 h1)]
    ·rw[if_neg h1,if_neg (fun h2=>h1 ((hA y hy).2 h2))]
   ·exact⟨x,(h.mem x).2 (.inr hx),if_neg (hB x hx)⟩
 ·unfold useL at hx
  obtain⟨y,hy,rfl⟩:=List.mem_map.1 hx
  split
  ·exact h.na y hy
  ·exact h.na y hy
end
section
variable {f:Fm} {c:List Kind} {l:List Rep} {s:List Part} {R:Nat→Nat} {t T:List Int} {E:List Evt} {r k:Nat} {p:ByteArray} {day:Int}
end
end Go.Sx
set_option linter.all false
namespace Go.Sx
open Go
def c8t:List Ivl→Ivl
 | []=>a3n
 |x::r=>r.foldl a2y x
noncomputable def lifeA (f:Fm) (c:List Kind) (own:List Rep) (p:ByteArray) (day:Int):List (Option Part):=(a1Y c own 4096).1.map fun t=>a0C (runL f c (a1j own t).1 day).1 p
def a4R (f:Fm) (c:List Kind) (l own:List Rep) (day:Int):Int:=if (!a1a c || !a1p f)=true then 1 else if (decide (day<0)||decide (day>40000))=true then 1 else b9r c l own
noncomputable def bndF (g:Option Part→Ivl) (f:Fm) (c:List Kind) (l own:List Rep) (p:ByteArray) (day:Int):Ivl×Int:=
 if a4R f c l own day≠0 then (a3n,a4R f c l own day) else if (lifeA f c own p day).any Option.isSome=false then (a3n,2) else (c8t ((lifeA f c own p day).map g),0)
def kmO (o:Option Part):Ivl:=(o.getD zPart).life.km
def cyO (o:Option Part):Ivl:=(o.getD zPart).life.cycles
def daO (o:Option Part):Ivl:=(o.getD zPart).life.damage
def a8D (s:ByteArray) (day:Int) (o:Option Part):Ivl:=match o with
 |some p=>(a5q p s day).1
 |none=>a3n
noncomputable def bndLife (f:Fm) (c:List Kind) (l own:List Rep) (p:ByteArray) (day:Int):Life×Int:=(⟨(bndF kmO f c l own p day).1,(bndF cyO f c l own p day).1,(bndF daO f c l own p day).1⟩,(bndF kmO f c l own p day).2)
noncomputable def bndVal (s:ByteArray) (f:Fm) (c:List Kind) (l own:List Rep) (p:ByteArray) (day:Int):Ivl×Int:=if a5x s=false then (a3n,15) else bndF (a8D s day) f c l own p day
section
variable {L M:List Ivl} {x:Ivl}
end
section
variable {f:Fm} {c:List Kind} {l own:List Rep} {R:Nat→Nat} {p s:ByteArray} {day:Int} {g g':Option Part→Ivl} {k:Nat}
theorem a7g (h:(bndF g f c l own p day).2=0):a4R f c l own day=0∧(lifeA f c own p day).any Option.isSome=true∧(bndF g f c l own p day).1=c8t ((lifeA f c own p day).map g):=by
 unfold bndF at h ⊢
 by_cases h1:a4R f c l own day≠0
 ·rw[if_pos h1]at h;exact absurd h h1
 ·rw[if_neg h1]at h ⊢
  by_cases h2:(lifeA f c own p day).any Option.isSome=false
  ·rw[if_pos h2]at h;cases h
  ·rw[if_neg h2];exact⟨by simpa using h1,by cases hb:(lifeA f c own p day).any Option.isSome<;>simp_all,rfl⟩
theorem a9m (h:(bndF g f c l own p day).2≠0):(bndF g f c l own p day).1=a3n:=by
 unfold bndF at h ⊢
 split
 ·rfl
 ·rename_i h1
  rw[if_neg h1]at h
  split
  ·rfl
  ·rename_i h2;rw[if_neg h2]at h;exact absurd rfl h
theorem b5Y:(bndF g f c l own p day).2=(bndF g' f c l own p day).2:=by
 unfold bndF
 split
 ·rfl
 ·split<;>rfl
theorem a9l (h:a4R f c l own day=0):a1p f=true∧(0≤day∧day≤40000)∧b9r c l own=0:=by
 unfold a4R at h
 split at h
 ·cases h
 split at h
 ·cases h
 rename_i h1 h2
 simp at h1 h2
 exact⟨h1.2,oM,h⟩
theorem b0q (hd:0≤day∧day≤40000) (o:Option Part):a8D sKm day o=kmO o∧a8D a1S day o=cyO o∧a8D a2c day o=daO o:=by
 cases o with
 |none=>exact⟨rfl,rfl,rfl⟩
 |some q=>
  refine⟨?_,?_,?_⟩<;>(unfold a8D;dsimp only;rw[c6d (by decide +kernel) hd])<;>unfold b4o
  ·rw[if_pos rfl];rfl
  ·rw[if_neg (by decide +kernel),if_pos rfl];rfl
  ·rw[if_neg (by decide +kernel),if_neg (by decide +kernel),if_pos rfl];rfl
theorem a9n (h:a4R f c l own day=0→∀o,g o=g' o):bndF g f c l own p day=bndF g' f c l own p day:=by
 unfold bndF
 by_cases h1:a4R f c l own day≠0
 ·rw[if_pos h1,if_pos h1]
 ·rw[if_neg h1,if_neg h1];have e:g=g':=funext (h (by simpa using h1));rw[e]
theorem b2O:bndVal sKm f c l own p day=bndF kmO f c l own p day∧bndVal a1S f c l own p day=bndF cyO f c l own p day∧bndVal a2c f c l own p day=bndF daO f c l own p day:=by
 unfold bndVal;refine⟨?_,?_,?_⟩
 ·rw[if_neg (by decide +kernel)];exact a9n fun h o=>(b0q (a9l h).2.1 o).1
 ·rw[if_neg (by decide +kernel)];exact a9n fun h o=>(b0q (a9l h).2.1 o).2.1
 ·rw[if_neg (by decide +kernel)];exact a9n fun h o=>(b0q (a9l h).2.1 o).2.2
end
end Go.Sx
set_option linter.all false
namespace Go.Sx
open Go
def bxF:Fm:=.mk 2 0 []
def bxC:List Kind:=[⟨c1D,true,[]⟩]
def a8k:Evt:=⟨1,0,nV1,c1D,a1b,a1b,a1b,a1b,d3n⟩
def a4S (d k:Int):Evt:=⟨4,d,nV1,a1b,a1b,a1b,a1b,a1b,⟨⟨k,k⟩,⟨0,0⟩,⟨0,0⟩⟩⟩
def bxL:List Rep:=[⟨[a8k],false⟩,⟨[a4S 1 10,a4S 2 20],false⟩]
def nV2:ByteArray:=⟨#[118,50]⟩
def c6X:ByteArray:=⟨#[121,101,97,114,115]⟩
def bxP (k:Int):Part:=⟨nV1,c1D,a1b,a1b,0,0,false,[],⟨⟨k,k⟩,⟨0,0⟩,⟨k,k⟩⟩⟩
theorem b2R:SmC bxC:=c0s (by decide +kernel)
theorem b9L:∀r∈bxL,∀e∈r.options,SmE e:=by
 intro r hr e he
 simp only[bxL,List.mem_cons,List.not_mem_nil,or_false]at hr
 rcases hr with rfl|rfl<;>simp only[List.mem_cons,List.not_mem_nil,or_false]at he
 ·subst he;exact⟨by decide,by decide,by decide,by decide,by decide,by decide⟩
 ·rcases he with rfl|rfl<;>exact⟨by decide,by decide,by decide,by decide,by decide,by decide⟩
theorem b9K:a1Y bxC bxL 4096=([[0,0],[0,1]],0):=by decide +kernel
theorem d0O:runL bxF bxC (a1j bxL [0,0]).1 0=([bxP 0],-1,0):=a8c (by decide +kernel)
theorem d0P:runL bxF bxC (a1j bxL [0,1]).1 0=([bxP 0],-1,0):=a8c (by decide +kernel)
theorem d0Q:runL bxF bxC (a1j bxL [0,0]).1 1=([bxP 10],-1,0):=a8c (by decide +kernel)
theorem d0R:runL bxF bxC (a1j bxL [0,1]).1 1=([bxP 0],-1,0):=a8c (by decide +kernel)
theorem d0S:runL bxF bxC (a1j bxL [0,0]).1 2=([bxP 10],-1,0):=a8c (by decide +kernel)
theorem d0T:runL bxF bxC (a1j bxL [0,1]).1 2=([bxP 20],-1,0):=a8c (by decide +kernel)
theorem d3y:lifeA bxF bxC bxL nV1 0=[some (bxP 0),some (bxP 0)]:=by
 unfold lifeA;rw[b9K];simp only[List.map_cons,List.map_nil];rw[d0O,d0P];rfl
theorem d3z:lifeA bxF bxC bxL nV1 1=[some (bxP 10),some (bxP 0)]:=by
 unfold lifeA;rw[b9K];simp only[List.map_cons,List.map_nil];rw[d0Q,d0R];rfl
theorem c7y:lifeA bxF bxC bxL nV1 2=[some (bxP 10),some (bxP 20)]:=by
 unfold lifeA;rw[b9K];simp only[List.map_cons,List.map_nil];rw[d0S,d0T];rfl
theorem d3v:a4R bxF bxC bxL bxL 0=0:=by decide +kernel
theorem d3w:a4R bxF bxC bxL bxL 1=0:=by decide +kernel
theorem c7x:a4R bxF bxC bxL bxL 2=0:=by decide +kernel
theorem d3A:bndVal sKm bxF bxC bxL bxL nV1 0=(⟨0,0⟩,0):=by
 rw[b2O.1];unfold bndF;rw[if_neg (by rw[d3v];decide),d3y];decide +kernel
theorem d3B:bndVal sKm bxF bxC bxL bxL nV1 1=(⟨0,10⟩,0):=by
 rw[b2O.1];unfold bndF;rw[if_neg (by rw[d3w];decide),d3z];decide +kernel
theorem d3x:bndF kmO bxF bxC bxL bxL nV1 2=(⟨10,20⟩,0):=by
 unfold bndF;rw[if_neg (by rw[c7x];decide),c7y];decide +kernel
theorem d3u:bndF daO bxF bxC bxL bxL nV1 2=(⟨10,20⟩,0):=by
 unfold bndF;rw[if_neg (by rw[c7x];decide),c7y];decide +kernel
theorem d3t:bndF cyO bxF bxC bxL bxL nV1 2=(⟨0,0⟩,0):=by
 unfold bndF;rw[if_neg (by rw[c7x];decide),c7y];decide +kernel
theorem c7z:bndLife bxF bxC bxL bxL nV1 2=(⟨⟨10,20⟩,⟨0,0⟩,⟨10,20⟩⟩,0):=by unfold bndLife;rw[d3x,d3t,d3u]
theorem c7A:(bndLife bxF bxC bxL [] nV2 2).2=2:=by
 have h:a4R bxF bxC bxL [] 2=2:=by decide +kernel
 show (bndF kmO bxF bxC bxL [] nV2 2).2=2
 unfold bndF;rw[if_pos (by rw[h];decide),h]
theorem c3M:∀own p d,bndVal c6X bxF bxC bxL own p d=(a3n,15):=fun own p d=>if_pos (by decide +kernel)
theorem c7w {R:Nat→Nat} (hR:Rts bxL R):a1e bxL R nV1=bxL∧a1e bxL R nV2=[]:=by
 have h1:R 1=R 0:=hR.share (l:=bxL) (i:=1) (k:=0) (z:=nV1) (by decide) (by decide) (a6T.1 (by decide +kernel)) (a6T.1 (by decide +kernel));refine⟨c7p hR (fun i hi=>?_) (k:=0) (by decide) (a6T.1 (by decide +kernel)),(c8R hR).2 (b5h fun k hk hn=>?_)⟩
 ·match i,hi with
  |0,_=>rfl
  |1,_=>exact h1
  |n+2,hi=>exact absurd hi (by show ¬n+2<2;omega)
 ·have hk2:k<2:=hk;have hn:=a6T.2 hn
  match k,hk with
  |0,_=>exact (show ¬nmB (bxL[0]'(by decide)) nV2=true by decide +kernel) hn
  |1,_=>exact (show ¬nmB (bxL[1]'(by decide)) nV2=true by decide +kernel) hn
  |n+2,hi=>omega
end Go.Sx
namespace Go.Proofs.YtkndpfncklhhlaaGreat
open Go Go.Sx Tryz
set_option linter.all false
set_option maxRecDepth 20000
set_option maxHeartbeats 4000000
theorem d1D (I:IMap) (v:Value) (l:List Rep) (hv:RdS I v l) (hl:l.length≤1000000) (hsl:∀r∈l,∀e∈r.options,SmE e) (p:ByteArray) (R:Nat→Nat) (hRt:Rts l R) :
    FnI prog 44 #[v,.string p] I (fun u J=>RdS J u (nI (ofN l R p))):=by
 refine enter func44 call44 rfl ntmps44 rfl fun w0=>?_;refine go 9 ?_;refine c1K (b8y _ _ l hv hl hsl) rfl rfl fun v13 I13 H13 j13 q13=>?_;obtain⟨w,m,F,kvs,fm,rfl,rfl,hK,hM⟩:=q13;have hR:rt F=R:=(hK.done (fun k z hk h=>⟨hk,h⟩)).uniq hRt;have hFl:=hK.len;refine go 11 ?_;refine o_v rfl (a8v m1 (a0O he) he he (p) rfl rfl rfl rfl) ?_;refine gC 14 (fun h23 p23=>?_) fun h23 p23=>?_
 ·have hq0:fm p=none:=by
    cases hq:fm p with
    |none=>rfl
    |some q=>rw[hM,hq]at h23;cases h23
  refine go 8 ?_;have hno:ofN l R p=[]:=b5h fun k hk h=>by obtain⟨q,hq,_⟩:=hK.seen k p ⟨hk,h⟩;rw[hq0]at hq;cases hq
  exact q_i (by rw[hno];exact RdS.nil')
 ·obtain⟨q,hq⟩:∃q,fm p=some q:=by
    cases hq:fm p with
    |none=>rw[hM,hq]at h23;cases h23
    |some q=>exact⟨q,rfl⟩
  have hmg:(a4I kvs p).getD (.int .i64 0) = .int .i64 (q:Int):=by rw[hM,hq];rfl
  rw[hmg];obtain⟨hql,hqh,hqn⟩:=hK.own _ q hq;refine go 4 ?_;refine a0G 3 1 ?_;refine go 6 ?_;refine a0b ?_;refine a2I fun Aw cw hw=>?_;subst hw;refine go 6 ?_;refine a0c ?_;refine a0a ?_
  refine a6N ((0:Nat)) (F) (_) ([]) (I13) (fun i F1 v9 xs J=>J)
   (fun i F1 v9 xs J=>[(5,.slice Aw F.length cw),(7,.int .i64 ((q:Nat):Int)),(9,v9),(25,.int .i64 ((F.length:Nat):Int)),(26,.int .i64 ((i:Nat):Int))])
   (fun i F1 v9 xs J=>.row (.slice Aw F.length cw) 3 1 F.length (a4Z F1).flatten :: .row v9 3 1 (a1U R i (R q)).length xs::([]:List Res))
   (fun i F1 v9 xs J=>i≤F.length∧F1.length=F.length∧Fst F1∧(∀k,rt F1 k=R k)∧ILe I13 J∧Flat J xs (nI (a1U R i (R q))))
   (fun i F1 v9 xs J=>F.length-i) ⟨Nat.zero_le _,rfl,hK.fst,fun k=>by rw[hR],ILe.refl _,.nil⟩ rfl sb rfl ?_
  intro i F1 v9 xs J ⟨hi,hF1l,hF1,hr1,hJ,hF⟩;have hml:(a1U R i (R q)).length≤i:=by unfold a1U;exact Nat.le_trans (List.length_filter_le _ _) (by rw[List.length_range];exact Nat.le_refl _)
  refine gC 6 (fun h27 p27=>?_) fun h27 p27=>?_
  ·have hlt:i<F.length:=oM;refine go 12 ?_;refine a7L (a2b F1) (by rw[a3L];exact hF1l) (fun h0 _=>oM) fun g9 cap9 rest9 hv9 hR9 hc9 hl9=>?_
   cases hv9
   refine go 3 ?_;refine a7Z (hF1l▸a8S _ g9 cw F1 rest9 hR9 hF1 i oM) rfl rfl fun v31 I31 s31 j31 q31=>?_;have hF:=hF.le j31;obtain⟨G,rfl,rfl,hG,hFG,hr⟩:=q31;rw[hr1 i];refine go 3 ?_;refine a7Z (hG▸a8S _ g9 cw G rest9 hR9 hFG q oM) rfl rfl fun v34 I34 s34 j34 q34=>?_;have hF:=hF.le j34;obtain⟨G2,rfl,rfl,hG2,hFG2,hr2⟩:=q34;rw[hr q,hr1 q];refine a2q (a2b G2) hR9 (by rw[a3L];omega) hc9 hl9 ?_;refine gC 3 (fun h35 p35=>?_) fun h35 p35=>?_
   ·refine go 5 fun v38=>?_
    refine go 1 ?_;refine a0c ?_;refine a0o he he rfl rfl rfl rfl rfl oM oM rfl fun v39=>?_;refine go 9 ?_;refine a0b ?_;refine a0a ?_;refine a0b ?_;exact a1R (i+1) (G2) (_) (_) (_) ⟨oM,oM,hFG2,fun k=>by rw[hr2,hr,hr1],hJ.trans (j31.trans j34),by rw[a5e,if_pos oM,d1L];exact hF.append (.one rfl)⟩ oM rfl sb (by rw[a5e,if_pos oM,List.length_append];rfl)
   ·refine go 8 ?_;exact a1R (i+1) (G2) (_) (_) (_) ⟨oM,oM,hFG2,fun k=>by rw[hr2,hr,hr1],hJ.trans (j31.trans j34),by rw[a5e,if_neg oM];exact hF⟩ oM rfl sb (by rw[a5e,if_neg oM])
  ·obtain rfl:i=F.length:=oM;refine go 13 ?_;refine a0a ?_;refine a0d (l:=nI (a1U R F.length (R q))) rfl (by rw[a4J]) hF fun I9 j9 R9=>?_;exact q_i (by rw[b5i hRt hqh hqn,←hFl];exact R9)
end Go.Proofs.YtkndpfncklhhlaaGreat
set_option linter.all false
namespace Go.Sx
open Go
section
variable {c:List Kind} {l:List Rep} {R:Nat→Nat} {p:ByteArray} {day:Int} {i k:Nat}
section
variable {S:List Plc×Int}
end
theorem c3h {i:Nat} (hi:i<l.length) (h:∀r∈l.take i,a0l r=true) (h2:a0l l[i]=true):∀r∈l.take (i+1),a0l r=true:=fun r hr=>by
 rw[←a0e hi]at hr
 rcases List.mem_append.1 hr with hr|hr
 ·exact h r hr
 ·rw[List.mem_singleton.1 hr];exact h2
end
end Go.Sx
set_option linter.all false
namespace Go.Sx
open Go
section
variable {c:List Kind} {l own:List Rep} {p y z:ByteArray} {day:Int} {s:List Part}
end
section
variable {l:List Rep} {R:Nat→Nat} {p:ByteArray}
def d0B (l:List Rep) (R:Nat→Nat) (p:ByteArray) (i:Nat):Prop:=∀r∈(a1c R l.length).take i,∀k∈a1U R l.length r,∀h:k<l.length,¬nm l[k] p
theorem c8H {i:Nat} (hi:i<(a1c R l.length).length) (h:d0B l R p i) (h2:∀k∈a1U R l.length (a1c R l.length)[i],∀h:k<l.length,¬nm l[k] p):d0B l R p (i+1):=fun r hr=>by
 rw[←a0e hi]at hr
 rcases List.mem_append.1 hr with hr|hr
 ·exact h r hr
 ·rw[List.mem_singleton.1 hr];exact h2
theorem d3W {k:Nat} {M:List Nat} (hk:k<M.length) (hl:M[k]<l.length) (h:∀x∈M.take k,∀h:x<l.length,¬nm l[x] p) (h2:¬nm l[M[k]] p):∀x∈M.take (k+1),∀h:x<l.length,¬nm l[x] p:=fun x hx=>by
 rw[←a0e hk]at hx
 rcases List.mem_append.1 hx with hx|hx
 ·exact h x hx
 ·rw[List.mem_singleton.1 hx];exact fun _=>h2
theorem d1M (hR:Rts l R) {i k:Nat} (hi:i<(a1c R l.length).length) (hk:k<(a1U R l.length (a1c R l.length)[i]).length) (hl:(a1U R l.length (a1c R l.length)[i])[k]<l.length) (hn:nm l[(a1U R l.length (a1c R l.length)[i])[k]] p):ofN l R p=a1U R l.length (a1c R l.length)[i]:=by
 rw[b5i hR hl hn,(b2e.1 (List.getElem_mem hk)).2]
theorem c8O (hR:Rts l R) (h:d0B l R p (a1c R l.length).length):ofN l R p=[]:=by
 refine b5h fun k hk=>?_
 rw[d0B,List.take_length]at h
 exact h (R k) (c1v.2 ⟨Nat.lt_of_le_of_lt (hR.le k) hk,hR.idem k⟩) k (b2e.2 ⟨hk,rfl⟩) hk
theorem b9x {ns:List ByteArray} {r:Rep} (hn:a5t r ns):(ns.any fun x=>decide (x∈[p]))=true↔nm r p:=by
 rw[List.any_eq_true,←c1I hn]
 constructor
 ·rintro⟨x,hx,h⟩;have:x=p:=by simpa using h
  rwa[←this]
 ·intro h;exact⟨p,h,by simp⟩
end
theorem b9E {l:List Rep} {i:Nat} (hi:i<l.length) (h:a0l l[i]=false):l.any (fun r=>!a0l r)=true:=List.any_eq_true.2 ⟨_,List.getElem_mem hi,by simp[h]⟩
end Go.Sx
namespace Go.Proofs.YtkndpfncklhhlaaGreat
open Go Go.Sx Tryz
set_option linter.all false
set_option maxRecDepth 20000
set_option maxHeartbeats 4000000
instance:Has (a2A prog 79) ([.slice none 0 0,.bool false],2,32):=hk
theorem c9l (I:IMap) (v:Value) (l:List Rep) (hv:RdS I v l) (hl:l.length≤1000000) (hsl:∀r∈l,∀e∈r.options,SmE e) (R:Nat→Nat) (hRt:Rts l R) (p:ByteArray) :
    FnI prog 31 #[v,.string p] I (fun u J=>RdS J u (nI (ofN l R p))):=by
 have hv0:=hv;obtain⟨A,c0,rfl,hA,hc,hm⟩:=hv;refine enter func31 call31 rfl ntmps31 rfl fun w0=>?_;refine go 9 ?_;refine a0D (b8X _ _ l hv0 hl hsl R hRt) rfl rfl fun v9 I9 j9 q9=>?_
 try have hv0:=hv0.le j9
 try have hA:=hA.le j9
 try have hCA:=hCA.le j9
 try have q35:=q35.le j9
 have q9s:=q9;obtain⟨CA,cc,rfl,hCA,_,_⟩:=q9s;have hcl0:((a5Q R l.length).map nI).length=(a1c R l.length).length:=by simp[a5Q]
 refine go 10 ?_
 refine a1i ((0:Nat)) (_) (fun i J=>J)
  (fun i J=>[(0,.slice A l.length c0),(1,.string p),(5,.slice CA ((a5Q R l.length).map nI).length cc),(6,.int .i64 ((i:Nat):Int))])
  (fun i J=>[])
  (fun i J=>i≤(a1c R l.length).length∧ILe I9 J∧d0B l R p i)
  (fun i J=>(a1c R l.length).length-i) ⟨Nat.zero_le _,ILe.refl _,fun r hr=>by simp at hr⟩ rfl sb rfl ?_
 intro i J ⟨hi,hJ,hN⟩;have hv0:=hv0.le hJ;have hA:=hA.le hJ;have hCA:=hCA.le hJ;refine go 5 ?_;refine o_v rfl (OV.cast (u:=.int .i64 (((a1c R l.length).length:Nat):Int)) (a6Y he rfl) (congrArg (Value.int .i64) (by rw[hcl0]))) ?_;refine gC 3 (fun h13 p13=>?_) fun h13 p13=>?_
 ·have hlt:i<(a1c R l.length).length:=oM;have hrl:=b7v (R:=R) (n:=l.length);refine go 10 ?_
  refine a1i ((0:Nat)) (_) (fun k M=>M)
   (fun k M=>[(0,.slice A l.length c0),(1,.string p),(5,.slice CA ((a5Q R l.length).map nI).length cc),(6,.int .i64 ((i:Nat):Int)),(7,.int .i64 ((k:Nat):Int))])
   (fun k M=>[])
   (fun k M=>k≤(a1U R l.length (a1c R l.length)[i]).length∧ILe J M∧∀x∈(a1U R l.length (a1c R l.length)[i]).take k,∀h:x<l.length,¬nm l[x] p)
   (fun k M=>(a1U R l.length (a1c R l.length)[i]).length-k) ⟨Nat.zero_le _,ILe.refl _,fun x hx=>by simp at hx⟩ rfl sb rfl ?_
  intro k M ⟨hk,hM,hnk⟩;have hv0:=hv0.le hM;have hA:=hA.le hM;have hCA:=hCA.le hM;refine go 6 ?_;obtain⟨b19,o19,w19,e19,c19,r19⟩:=RdA.at_ hCA (i:=i) oM;rw[b4C hlt]at r19
  obtain⟨q19,rfl,S19,d19,rfl,hS19,hd19,hm19⟩:=r19;refine go 1 ?_;refine o_v rfl (OV.cast (u:=.slice S19 (a1U R l.length (a1c R l.length)[i]).length d19) (a1X he rfl (c19 0 _ rfl)) (by rw[a4J])) ?_;refine gC 4 (fun h22 p22=>?_) fun h22 p22=>?_
  ·have hlk:k<(a1U R l.length (a1c R l.length)[i]).length:=oM;have hcl:(a1U R l.length (a1c R l.length)[i])[k]<l.length:=c1y (List.getElem_mem hlk);have hmb:=c1x (R:=R) (n:=l.length) (r:=(a1c R l.length)[i]);refine go 9 ?_;obtain⟨b28,o28,w28,e28,c28,r28⟩:=RdA.at_ hCA (i:=i) oM;rw[b4C hlt]at r28
   obtain⟨q28,rfl,S28,d28,rfl,hS28,hd28,hm28⟩:=r28;refine go 1 ?_;refine o_v rfl (OV.cast (u:=.slice S28 (a1U R l.length (a1c R l.length)[i]).length d28) (a1X he rfl (c28 0 _ rfl)) (by rw[a4J])) ?_;refine go 1 ?_;obtain⟨b31,o31,w31,e31,c31,r31⟩:=RdA.at_ hS28 (i:=k) (by first|exact hlk|(rw[a4J];exact hlk));rw[c8G hlk]at r31
   obtain rfl:=r31;refine o_v rfl (a0i he rfl rfl e31 (k) oM (by first|exact hlk|(rw[a4J];exact hlk))) ?_;refine go 1 ?_;obtain⟨b33,o33,w33,e33,c33,r33⟩:=RdA.at_ hA (i:=(a1U R l.length (a1c R l.length)[i])[k]) hcl;obtain⟨q33,rfl,S33,d33,rfl,hS33,hd33,hm33⟩:=r33;refine o_v rfl (a0i he rfl rfl e33 ((a1U R l.length (a1c R l.length)[i])[k]) oM hcl) ?_;refine go 2 ?_;refine a0D (b1m _ l[(a1U R l.length (a1c R l.length)[i])[k]] S33 d33 ⟨_,_,rfl,hS33,hd33,hm33⟩ (hsl _ (List.getElem_mem hcl))) rfl rfl fun v35 I35 j35 q35=>?_
   try have hv0:=hv0.le j35
   try have hA:=hA.le j35
   try have hCA:=hCA.le j35
   try have q35:=q35.le j35
   obtain⟨ns,q35,hno⟩:=q35;refine go 3 fun v37=>?_
   refine a0d (l:=[p]) rfl rfl ((.one rfl)) fun I37 j37 R37=>?_
   try have hv0:=hv0.le j37
   try have hA:=hA.le j37
   try have hCA:=hCA.le j37
   try have q35:=q35.le j37
   refine go 1 ?_;refine cV (b0f _ _ ns q35 _ [p] R37) ?_;refine gC 2 (fun h38 p38=>?_) fun h38 p38=>?_
   ·refine go 4 ?_;obtain⟨b41,o41,w41,e41,c41,r41⟩:=RdA.at_ hCA (i:=i) oM;rw[b4C hlt]at r41
    obtain⟨q41,rfl,S41,d41,rfl,hS41,hd41,hm41⟩:=r41;refine go 1 ?_;refine o_v rfl (OV.cast (u:=.slice S41 (a1U R l.length (a1c R l.length)[i]).length d41) (a1X he rfl (c41 0 _ rfl)) (by rw[a4J])) ?_;refine go 14 ?_;exact q_i (by rw[d1M hRt hlt hlk hcl ((b9x hno).1 h38)];exact⟨_,_,by rw[a4J],hS41,hd41,hm41⟩)
   ·refine go 9 ?_;exact a0t (k+1) (_) ⟨oM,hM.trans (j35.trans j37),d3W hlk hcl hnk fun hn=>by rw[(b9x hno).2 hn]at h38;cases h38⟩ oM rfl sb rfl
  ·obtain rfl:k=(a1U R l.length (a1c R l.length)[i]).length:=oM;rw[List.take_length]at hnk
   refine go 12 ?_;exact a0t (i+1) (_) ⟨oM,hJ.trans hM,c8H hlt hN hnk⟩ oM rfl sb rfl
 ·obtain rfl:i=(a1c R l.length).length:=oM;refine go 12 ?_;exact q_i (by rw[c8O hRt hN];exact RdS.nil')
theorem b5z (I:IMap) (v:Value) (l:List Rep) (hv:RdS I v l) (w:Value) (D:List Nat) (hw:RdS I w (nI D)) (hC:∀i∈D,i<l.length) (hC6:D.length≤1000000) :
    FnI prog 30 #[v,w] I (fun u J=>RdS J u (a5i l D)):=by
 have hv0:=hv;obtain⟨A,c0,rfl,hA,hc,hm⟩:=hv;obtain⟨B,c1,rfl,hB,hcb,hmb⟩:=hw;rw[a4J]at hcb ⊢
 refine enter func30 call30 rfl ntmps30 rfl fun w0=>?_;refine go 7 ?_;refine a0G 79 2 ?_;refine go 10 ?_
 refine a2B ((0:Nat)) (_) ([]) (fun i v5 xs=>I)
  (fun i v5 xs=>[(0,.slice A l.length c0),(1,.slice B D.length c1),(5,v5),(6,.int .i64 ((i:Nat):Int))])
  (fun i v5 xs=>[.row v5 79 2 i xs])
  (fun i v5 xs=>i≤D.length∧Flat I xs (a5i l (D.take i)))
  (fun i v5 xs=>D.length-i) ⟨Nat.zero_le _,.nil⟩ rfl sb rfl ?_
 intro i v5 xs ⟨hi,hF⟩;refine gC 9 (fun h10 p10=>?_) fun h10 p10=>?_
 ·have hlt:i<D.length:=oM;have hcl:=hC _ (List.getElem_mem hlt);refine go 9 ?_;obtain⟨b17,o17,w17,e17,c17,r17⟩:=RdA.at_ hB (i:=i) (by first|exact hlt|(rw[a4J];exact hlt));rw[c8G hlt]at r17
  obtain rfl:=r17;refine o_v rfl (a0i he rfl rfl e17 (i) oM (by first|exact hlt|(rw[a4J];exact hlt))) ?_;refine go 1 ?_;obtain⟨b19,o19,w19,e19,c19,r19⟩:=RdA.at_ hA (i:=D[i]) hcl;obtain⟨q19,rfl,S19,d19,rfl,hS19,hd19,hm19⟩:=r19;refine o_v rfl (a0i he rfl rfl e19 (D[i]) oM hcl) ?_;refine go 3 fun v21=>?_
  refine go 1 ?_;refine a0b ?_;refine a0o he he rfl rfl rfl rfl rfl oM oM rfl fun v22=>?_;refine go 10 ?_;refine a0b ?_;refine a0a ?_;exact a1r (i+1) (_) (_) ⟨oM,by rw[←a0e hlt,a8t,a6r hcl];exact hF.append (.one ⟨_,rfl,⟨_,_,rfl,hS19,hd19,hm19⟩⟩)⟩ oM rfl sb rfl
 ·obtain rfl:i=D.length:=oM;rw[List.take_length]at hF
  refine go 7 ?_;refine a0d (l:=a5i l D) rfl (by rw[a5j hC]) (hF) fun Ip jp Rp=>?_;refine go 6 ?_;exact q_i Rp
end Go.Proofs.YtkndpfncklhhlaaGreat
set_option linter.all false
namespace Go.Sx
open Go
abbrev Hu:=Bool×Ivl
def hcl (x:Hu):List Value:=[.bool x.1,ci x.2.low,ci x.2.high]
def b3J (x:Hu) (d:Ivl):Hu:=(true,if x.1=true then a2y x.2 d else d)
theorem c6I (xs:List Hu):Uk 3 (xs.map hcl):=fun c hc=>by
 obtain⟨x,_,rfl⟩:=List.mem_map.1 hc
 rfl
def lf3 (f:Life):List Ivl:=[f.km,f.cycles,f.damage]
def hst (xs:List Hu) (f:Life):Nat→List Hu
 |0=>xs
 |i+1=>(hst xs f i).set i (b3J ((hst xs f i).getD i (false,a3n)) ((lf3 f).getD i a3n))
theorem b4V {xs:List Hu} {f:Life}:∀i,(hst xs f i).length=xs.length
 |0=>rfl
 |i+1=>by rw[hst,List.length_set,b4V i]
theorem c8r {xs:List Hu} {f:Life} {i:Nat} (hi:i<3) (h:xs.length=3):((hst xs f i).map hcl)[i]? = some (hcl ((hst xs f i).getD i (false,a3n))):=by
 have h1:i<(hst xs f i).length:=by rw[b4V,h];exact hi
 rw[List.getElem?_map,List.getElem?_eq_getElem h1,List.getD_eq_getElem?_getD,List.getElem?_eq_getElem h1];rfl
theorem c8s {xs:List Hu} {f:Life} {i:Nat}:((hst xs f i).map hcl).set i (hcl (b3J ((hst xs f i).getD i (false,a3n)) ((lf3 f).getD i a3n)))=(hst xs f (i+1)).map hcl:=by rw[hst,List.map_set]
def PtrO (I:IMap) (u:Value):Option Part→Prop
 |none=>u = .pointer none
 |some q=>∃g w,u = .pointer (some ⟨g,0,none⟩)∧ICells I g 0 (q.cells w)∧w.oneCell'=true
theorem PtrO.val {I:IMap} {u:Value} {o:Option Part} (h:PtrO I u o):∃pp,u = .pointer pp∧((pp=none∧o=none)∨∃q g w,pp=some ⟨g,0,none⟩∧o=some q∧ICells I g 0 (q.cells w)∧w.oneCell'=true):=by
 cases o with
 |none=>exact⟨none,h,.inl ⟨rfl,rfl⟩⟩
 |some q=>obtain⟨g,w,h1,h2,h3⟩:=h;exact⟨_,h1,.inr ⟨q,g,w,rfl,rfl,h2,h3⟩⟩
theorem PtrO.le {I I':IMap} (hI:ILe I I') {u:Value}:∀{o:Option Part},PtrO I u o→PtrO I' u o
 |none,h=>h
 |some _,⟨g,w,h1,h2,h3⟩=>⟨g,w,h1,h2.le hI,h3⟩
def daL (o:Option Part):Life:=(o.getD zPart).life
theorem d3V {f:Life} {i:Nat} (hi:i<3):(f.cells.drop (i * 2)).take 2=((lf3 f).getD i a3n).cells:=by
 match i,hi with
 |0,_=>rfl
 |1,_=>rfl
 |2,_=>rfl
section
variable {f:Fm} {c:List Kind} {l own:List Rep} {p:ByteArray} {day:Int}
theorem b7c {I:IMap} {s:List Part} {g:Nat} {w:Value} (h:(a0C s p).isSome=true) (hc:ICells I g 0 (((a0C s p).getD zPart).cells w)) (hw:w.oneCell'=true):PtrO I (.pointer (some ⟨g,0,none⟩)) (a0C s p):=by
 obtain⟨q,hq⟩:=Option.isSome_iff_exists.1 h;rw[hq]at hc ⊢
 exact⟨g,w,rfl,hc,hw⟩
theorem b7b {I:IMap} {s:List Part} (h:(a0C s p).isSome=false):PtrO I (.pointer none) (a0C s p):=by
 rw[Option.isSome_eq_false_iff,Option.isNone_iff_eq_none]at h
 rw[h];rfl
theorem b3Y:(runL f c [] 0).2.2=0↔a1a c=true∧a1p f=true:=by
 unfold runL
 split
 ·rename_i h
  simp only[Bool.or_eq_true,Bool.not_eq_true']at h
  constructor
  ·intro h2;cases h2
  ·rintro⟨h1,h2⟩;rw[h1,h2]at h;rcases h with h|h<;>cases h
 ·rename_i h
  simp at h
  exact⟨fun _=>h,fun _=>rfl⟩
theorem c3I (h:¬(runL f c [] 0).2.2=0):a4R f c l own day=1:=by
 unfold a4R;rw[if_pos];rw[b3Y]at h
 cases hc:a1a c<;>cases hf:a1p f<;>simp_all
theorem b5W (h:day<0∨40000<day):a4R f c l own day=1:=by
 unfold a4R
 split
 ·rfl
 ·rw[if_pos (by simp;omega)]
theorem b5V (h:a1a c=true∧a1p f=true) (h1:¬day<0) (h2:¬40000<day):a4R f c l own day=b9r c l own:=by
 unfold a4R;rw[if_neg (by simp[h.1,h.2]),if_neg (by simp;omega)]
noncomputable def bndA (f:Fm) (c:List Kind) (l own:List Rep) (p:ByteArray) (day:Int):Int:=if a4R f c l own day≠0 then a4R f c l own day else if (lifeA f c own p day).any Option.isSome=false then 2 else 0
noncomputable def bndS {σ:Type} (s0:σ) (g:σ→Option Part→σ) (f:Fm) (c:List Kind) (l own:List Rep) (p:ByteArray) (day:Int):σ:=if bndA f c l own p day=0 then (lifeA f c own p day).foldl g s0 else s0
noncomputable def lifeG (f:Fm) (c:List Kind) (own:List Rep) (p:ByteArray) (day:Int) (t:List Int):Option Part:=a0C (runL f c (a1j own t).1 day).1 p
theorem a5W:(a1Y c own 4096).1.map (lifeG f c own p day)=lifeA f c own p day:=rfl
theorem a5y {I:IMap} {o:Option Part} {pp:Option Addr} (h:PtrO I (.pointer pp) o):(!pp.isNone)=o.isSome:=by
 cases o with
 |none=>cases h;rfl
 |some q=>obtain⟨g,w,h1,_⟩:=h;cases h1;rfl
end
abbrev H3s:={xs:List Hu // xs.length=3}
def z3:H3s:=⟨[(false,a3n),(false,a3n),(false,a3n)],rfl⟩
def g3F (xs:H3s) (o:Option Part):H3s:=⟨hst xs.1 (daL o) 3,by rw[b4V];exact xs.2⟩
theorem c0R (s:H3s):∃x y z,s.1=[x,y,z]:=by
 obtain⟨xs,h⟩:=s
 match xs,h with
 | [x,y,z],_=>exact⟨x,y,z,rfl⟩
theorem d1p (s:H3s):((s.1.map hcl).flatten).length=9:=by
 obtain⟨x,y,z,h⟩:=c0R s;rw[h];rfl
theorem d1q (s:H3s):((s.1.map hcl).flatten).all Value.oneCell'=true:=by
 obtain⟨x,y,z,h⟩:=c0R s;rw[h];rfl
theorem d4D {x y z:Hu} {f:Life}:hst [x,y,z] f 3=[b3J x f.km,b3J y f.cycles,b3J z f.damage]:=rfl
theorem c0L:∀(L:List (Option Part)) (s:H3s) (x y z:Hu),s.1=[x,y,z]→(L.foldl g3F s).1=[L.foldl (fun h o=>b3J h (kmO o)) x,L.foldl (fun h o=>b3J h (cyO o)) y,L.foldl (fun h o=>b3J h (daO o)) z]
 | [],s,x,y,z,h=>h
 |o::L,s,x,y,z,h=>by
  simp only[List.foldl_cons]
  refine c0L L (g3F s o) _ _ _ ?_
  show hst s.1 (daL o) 3=_
  rw[h,d4D];rfl
theorem b7f {g:Option Part→Ivl}:∀(L:List (Option Part)) (d:Ivl),(L.foldl (fun h o=>b3J h (g o)) (true,d))=(true,(L.map g).foldl a2y d)
 | [],d=>rfl
 |o::L,d=>by
  rw[List.foldl_cons,List.map_cons,List.foldl_cons];exact b7f L _
theorem c5h {g:Option Part→Ivl} {L:List (Option Part)} (h:L≠[]):L.foldl (fun h o=>b3J h (g o)) (false,a3n)=(true,c8t (L.map g)):=by
 cases L with
 |nil=>exact absurd rfl h
 |cons o L=>
  rw[List.foldl_cons];exact b7f L (g o)
section
variable {f:Fm} {c:List Kind} {l own:List Rep} {p:ByteArray} {day:Int}
theorem bndA_is {g:Option Part→Ivl}:(bndF g f c l own p day).2=bndA f c l own p day:=by
 unfold bndF bndA
 split
 ·rfl
 ·split<;>rfl
theorem b1G (h:bndA f c l own p day=0):lifeA f c own p day≠[]:=by
 intro e;unfold bndA at h
 split at h
 ·rename_i h1;exact absurd h h1
 ·rw[e]at h;cases h
theorem d3g {g:Option Part→Ivl}:(bndS ((false,a3n):Hu) (fun h o=>b3J h (g o)) f c l own p day).2=(bndF g f c l own p day).1:=by
 unfold bndS
 by_cases h:bndA f c l own p day=0
 ·rw[if_pos h,c5h (b1G h)];exact (a7g (bndA_is.trans h)).2.2.symm
 ·rw[if_neg h];exact (a9m (fun e=>h (bndA_is.symm.trans e))).symm
theorem d4w {x y z:Hu} (hS:(bndS z3 g3F f c l own p day).1=[x,y,z]):(bndLife f c l own p day).1=⟨x.2,y.2,z.2⟩∧(bndLife f c l own p day).2=bndA f c l own p day:=by
 refine⟨?_,bndA_is⟩;have h1:=d3g (f:=f) (c:=c) (l:=l) (own:=own) (p:=p) (day:=day) (g:=kmO);have h2:=d3g (f:=f) (c:=c) (l:=l) (own:=own) (p:=p) (day:=day) (g:=cyO);have h3:=d3g (f:=f) (c:=c) (l:=l) (own:=own) (p:=p) (day:=day) (g:=daO);unfold bndLife;rw[←h1,←h2,←h3];unfold bndS at hS ⊢
 by_cases h:bndA f c l own p day=0
 ·rw[if_pos h]at hS ⊢
  rw[if_pos h,if_pos h];rw[c0L _ z3 _ _ _ rfl]at hS
  injection hS with e1 hS
  injection hS with e2 hS
  injection hS with e3 _
  rw[←e1,←e2,←e3]
 ·rw[if_neg h]at hS ⊢
  rw[if_neg h,if_neg h]
  injection hS with e1 hS
  injection hS with e2 hS
  injection hS with e3 _
  rw[←e1,←e2,←e3]
end
end Go.Sx
set_option linter.all false
namespace Go.Sx
open Go
variable {P:Program} {n:Sz} {E:Ent} {I:IMap} {L:LL} {H:List Res}
variable {d ty:Nat} {pos:String} {af:Array Edge} {x y:Operand} {i:Int}
theorem d0m {cs:List Value} {tt e kk m:Nat} (ys:List Value) (he:b9B P tt=some (m,e,kk)) (hb:tyK P e=some (true,kk)) (hx:ev L x=some (.agg cs.toArray)) (hy:ev L y=some (.int .i64 i)) (q:Nat) (hq:i=(q:Int)) (hlt:q<m) (hv:(cs.drop (q * kk)).take kk=ys)
  : OV P n E I L H ⟨some d,.index tt x y,ty,pos,af,none⟩ (.agg ys.toArray):=fun a w st _=>by
 obtain⟨h1,bb,h2⟩:=a7e he;subst hq hv;have hlt':(q:Int)<(m:Int):=oM
 have e1:cs.toArray.extract (q * kk) (q * kk+kk)=((cs.drop (q * kk)).take kk).toArray:=by
  rw[List.extract_toArray]
  simp[List.extract]
 simp[execOp,st.ev hx,st.ev hy,Instr.index,asIntOf,run_underlying h1,(a1d hb w).1,(a1d hb w).2,hlt,hlt',part,asAgg,e1]
theorem b7Q {tx te tyy:TypeId} {p:Option Addr} (ht:P.underlying tx=some (.pointer te)) (hx:ev L x=some (.pointer p)) (hy:ev L y=some (.pointer none)):OV P n E I L H ⟨some d,.binOp .neq tx x y tyy,ty,pos,af,none⟩ (.bool (!p.isNone)):=fun a w st _=>by
 have h2:P.underlying tx=some (.pointer (P.pointee tx)):=by rw[ht];simp[Program.pointee,ht]
 simp[execOp,st.ev hx,st.ev hy,eqGuard_at_pointer,run_neq_pointer_nil w tx p h2]
end Go.Sx
namespace Go.Proofs.YtkndpfncklhhlaaGreat
open Go Go.Sx Tryz
set_option linter.all false
set_option maxRecDepth 20000
set_option maxHeartbeats 4000000
instance:Has (b9B prog 47) (3,46,3):=hk
instance:Has (b9B prog 55) (3,34,2):=hk
instance:Has (a3C prog 46 0) (0,false,1):=hk
instance:Has (a3C prog 46 1) (1,true,2):=hk
instance:Has (tyK prog 46) (true,3):=hk
instance:Has (tyK prog 47) (true,9):=hk
instance:Has (tyK prog 57) (false,1):=hk
instance:Has (tyK prog 68) (false,1):=hk
instance:Has (prog.underlying 51) (.pointer 54):=hk
instance:Has (a2r prog 4) [.bool false]:=hk
instance:Has (a2r prog 46) [.bool false,.int .i64 0,.int .i64 0]:=hk
instance:Has (a2r prog 47) [.bool false,.int .i64 0,.int .i64 0,.bool false,.int .i64 0,.int .i64 0,.bool false,.int .i64 0,.int .i64 0]:=hk
instance:Has (a2r prog 55) [.int .i64 0,.int .i64 0,.int .i64 0,.int .i64 0,.int .i64 0,.int .i64 0]:=hk
theorem c0Y (I:IMap) {xss:List (List Value)} (g t i:Nat) (hU:Uk 3 xss) (x:Hu) (hi:xss[i]? = some (hcl x)) (d:Ivl) (off:Nat) (ho:off=i * 3) :
    FnM prog 14 #[.pointer (some ⟨g,off,none⟩),.agg d.cells.toArray] I (.blk g t xss.flatten) (.blk g t (xss.set i (hcl (b3J x d))).flatten):=by
 refine enter func14 call14 rfl ntmps14 rfl fun w0=>?_;refine go 4 fun g3=>?_
 refine go 8 ?_;refine o_v rfl (c7d m1 hU he rfl (i) 0 oM hi rfl) ?_;refine gC 2 (fun h7 p7=>?_) fun h7 p7=>?_
 ·refine ds1 ?_;refine dG 0 3 ?_;refine a0F 3 rfl rfl (by kernel_rfl) rfl (.cons _ (.refl _)) rfl (a2k (x.2.cells) m0 hU he rfl (i) 1 oM hi rfl rfl rfl) ?_;refine dH 4 0 ?_;refine a0k rfl (a4n m0 he rfl rfl) ?_;refine dH 5 0 ?_;refine cV (c1e _ x.2 d) ?_;refine dH 6 0 ?_;refine go 4 ?_;refine a0b ?_;refine ds1 ?_;refine dH 0 5 ?_;refine a0Y _ _ (by first|exact hU|exact hU.set rfl _|exact (hU.set rfl _).set rfl _) he rfl rfl rfl rfl rfl (i) 0 oM (by first|exact hi|exact a0g hi|exact a0g (a0g hi)) (by decide) rfl ?_;refine dH 6 2 ?_;refine a0Y _ _ (by first|exact hU|exact hU.set rfl _|exact (hU.set rfl _).set rfl _) he rfl rfl rfl rfl rfl (i) 1 oM (by first|exact hi|exact a0g hi|exact a0g (a0g hi)) (by decide) rfl ?_;refine go 3 ?_;refine a0b ?_;refine a0a ?_;exact b3K (by rw[List.set_set];simp only[b3J,if_pos h7];rfl)
 ·refine go 2 ?_;refine a0b ?_;refine ds1 ?_;refine dH 0 5 ?_;refine a0Y _ _ (by first|exact hU|exact hU.set rfl _|exact (hU.set rfl _).set rfl _) he rfl rfl rfl rfl rfl (i) 0 oM (by first|exact hi|exact a0g hi|exact a0g (a0g hi)) (by decide) rfl ?_;refine dH 6 2 ?_;refine a0Y _ _ (by first|exact hU|exact hU.set rfl _|exact (hU.set rfl _).set rfl _) he rfl rfl rfl rfl rfl (i) 1 oM (by first|exact hi|exact a0g hi|exact a0g (a0g hi)) (by decide) rfl ?_;refine go 3 ?_;refine a0b ?_;refine a0a ?_;exact b3K (by rw[List.set_set];simp only[b3J,h7];rfl)
theorem c7v (I:IMap) (g:Nat) (xs:List Hu) (hx:xs.length=3) (u:Value) (o:Option Part) (hu:PtrO I u o) :
    FnM prog 13 #[.pointer (some ⟨g,0,none⟩),u] I (.blk g 47 ((hst xs (daL o) 0).map hcl).flatten) (.blk g 47 ((hst xs (daL o) 3).map hcl).flatten):=by
 obtain⟨pp,rfl,hpp⟩:=hu.val;refine enter func13 call13 rfl ntmps13 rfl fun w0=>?_;refine go 4 fun g4=>?_
 refine go 3 ?_;refine a1h (I':=I) (L':=[(0,.pointer (some ⟨g,0,none⟩)),(4,.pointer (some ⟨g4,0,none⟩))]) (H':=[.blk g4 36 (daL o).cells,.blk g 47 ((hst xs (daL o) 0).map hcl).flatten]) ?_ ?_
 ·refine go 3 ?_;refine o_v rfl (b7Q he rfl rfl) ?_;refine gC 2 (fun h8 p8=>?_) fun h8 p8=>?_
  ·obtain⟨q,gq,w,rfl,rfl,cu,hw⟩:=hpp.resolve_left (by rintro⟨rfl,_⟩;simp at h8);refine go 4 ?_;refine o_v rfl (a2P he rfl (cu.sub 8 6) rfl) ?_;refine go 4 ?_;exact a0h sb rfl rfl
  ·obtain⟨rfl,rfl⟩:pp=none∧o=none:=hpp.resolve_right (by rintro⟨q,g,w,rfl,_⟩;simp at h8);refine go 2 ?_;exact a0h sb rfl rfl
 ·refine go 3 ?_;refine o_v rfl (a0J ((daL o).km.cells) m0 he rfl rfl rfl) ?_;refine go 1 ?_;refine o_v rfl (a0J ((daL o).cycles.cells) m0 he rfl rfl rfl) ?_;refine go 1 ?_;refine o_v rfl (a0J ((daL o).damage.cells) m0 he rfl rfl rfl) ?_;refine go 1 ?_;refine a0k rfl (b2D he he rfl rfl) ?_;refine go 4 ?_;refine a0a ?_
  refine a0w (α:=Nat) (0:Nat) (fun i=>I)
   (fun i=>[(0,.pointer (some ⟨g,0,none⟩)),(19,.agg (daL o).cells.toArray),(20,.int .i64 ((i:Nat):Int))])
   (fun i=>[.blk g 47 ((hst xs (daL o) i).map hcl).flatten])
   (fun i=>i≤3)
   (fun i=>3-i) (Nat.zero_le _) rfl sb rfl ?_
  intro i hi;refine gC 6 (fun h21 p21=>?_) fun h21 p21=>?_
  ·have hlt:i<3:=oM;refine go 7 ?_;refine o_v rfl (d0m (((lf3 (daL o)).getD i a3n).cells) he he rfl rfl i rfl hlt (d3V hlt)) ?_;refine go 2 fun g6=>?_
   refine go 5 ?_;refine a0b ?_;refine ds1 ?_;refine dG 0 3 ?_;refine a0F 3 rfl rfl (by kernel_rfl) rfl (.cons _ (.refl _)) rfl (a5o he rfl rfl i oM hlt) ?_;refine dH 4 1 ?_;refine a4v (c0Y _ g 47 i (c6I _) _ (c8r hlt hx) ((lf3 (daL o)).getD i a3n) _ (Nat.zero_add _)) rfl rfl ?_;rw[c8s];refine go 9 ?_;refine a0b ?_;refine a0a ?_;exact a0s (i+1) oM oM rfl sb rfl
  ·refine go 5 ?_;obtain rfl:i=3:=oM;exact q_m
theorem b9H (I:IMap) (vc:Value) (c:List Kind) (hvc:RdS I vc c) (hsc:SmC c) (f:Fm) (sf:Value) (hf:FmRd I [ci f.op,ci f.n,sf] f) (v:Value) (l:List Rep) (hv:RdS I v l) (hl:l.length≤25) (hsl:∀r∈l,∀e∈r.options,SmE e) (R:Nat→Nat) (hRt:Rts l R) (p:ByteArray) (day:Int)  :
    FnI prog 26 #[.agg #[vc,ci f.op,ci f.n,sf],v,.string p,.int .i64 (day)] I (fun u J=>∃w a,u = .tuple #[w,a,.int .i64 (a4R f c l (a1e l R p) day)]∧((a4R f c l (a1e l R p) day)=0→RdS J w (a1e l R p)∧RdS J a (a1Y c (a1e l R p) 4096).1)):=by
 have hv0:=hv;obtain⟨A,c0,rfl,hA,hc,hm⟩:=hv;refine enter func26 call26 rfl ntmps26 rfl fun w0=>?_;refine go 4 fun g4=>?_
 refine go 10 ?_;refine a0D (c1m _ vc c hvc hsc f sf hf _ [] RdS.nil' (by simp) (fun e he=>by cases he) 0) rfl rfl fun v23 I23 j23 q23=>?_
 try have hvc:=hvc.le j23
 try have hf:=hf.le j23
 try have hv0:=hv0.le j23
 try have hA:=hA.le j23
 try have Ro:=Ro.le j23
 try have hw70:=hw70.le j23
 obtain⟨w23,rfl,hw23⟩:=q23;refine go 6 fun g11=>?_
 refine go 1 ?_;refine a1A _ he rfl rfl rfl rfl rfl (by simp[RdS.one hw23]) ?_;refine gS 9 29 (fun h29 p29=>?_) fun h29 p29=>?_
 ·refine go 20 ?_;have e:(a4R f c l (a1e l R p) day)=1:=c3I (by simpa using h29);exact q_i ⟨_,_,by rw[e]<;>rfl,fun h=>by rw[e]at h;cases h⟩
 ·refine gS 4 33 (fun h33 p33=>?_) fun h33 p33=>?_
  ·refine go 16 ?_;have e:(a4R f c l (a1e l R p) day)=1:=b5W (.inl (by simpa using h33));exact q_i ⟨_,_,by rw[e]<;>rfl,fun h=>by rw[e]at h;cases h⟩
  ·refine gC 5 (fun h36 p36=>?_) fun h36 p36=>?_
   ·refine go 10 ?_;have e:(a4R f c l (a1e l R p) day)=1:=b5W (.inr (by simpa using h36));exact q_i ⟨_,_,by rw[e]<;>rfl,fun h=>by rw[e]at h;cases h⟩
   ·have hcf:=b3Y.1 (show (runL f c [] 0).2.2=0 by simpa using h29);have hd1:¬day<0:=by simpa using h33
    have hd2:¬40000<day:=by simpa using h36
    have hBE:=b5V (l:=l) (own:=(a1e l R p)) hcf hd1 hd2;refine go 11 ?_;refine a0a ?_
    refine a0w (α:=Nat) 0 (fun i=>I23)
     (fun i=>[(1,.slice A l.length c0),(2,.string p),(3,.int .i64 (day)),(4,.pointer (some ⟨g4,0,none⟩)),(37,.slice A l.length c0),(38,.int .i64 ((l.length:Nat):Int)),(39,.int .i64 ((i:Nat):Int))])
     (fun i=>[.blk g4 29 [vc,ci f.op,ci f.n,sf]])
     (fun i=>i≤l.length∧∀r∈l.take i,a0l r=true)
     (fun i=>l.length-i) ⟨Nat.zero_le _,fun r hr=>by simp at hr⟩ rfl sb rfl ?_
    intro i ⟨hi,hn⟩;refine gC 6 (fun h40 p40=>?_) fun h40 p40=>?_
    ·have hlt:i<l.length:=oM;refine go 6 ?_;obtain⟨b41,o41,w41,e41,c41,r41⟩:=RdA.at_ hA (i:=i) oM;obtain⟨q41,rfl,S41,d41,rfl,hS41,hd41,hm41⟩:=r41;refine go 4 fun g15=>?_
     refine go 8 ?_;refine cV (b2w _ l[i] S41 d41 ⟨_,_,rfl,hS41,hd41,hm41⟩ (hsl _ (List.getElem_mem hlt))) ?_;refine gC 3 (fun h45 p45=>?_) fun h45 p45=>?_
     ·refine go 14 ?_;have e:(a4R f c l (a1e l R p) day)=1:=hBE.trans (d0Y (own:=(a1e l R p)) hcf.1 (b9E hlt (by simpa using h45)));exact q_i ⟨_,_,by rw[e]<;>rfl,fun h=>by rw[e]at h;cases h⟩
     ·refine go 8 ?_;refine a0a ?_;exact a0s (i+1) ⟨oM,c3h hlt hn (by simpa using h45)⟩ oM rfl sb rfl
    ·obtain rfl:i=l.length:=oM;rw[List.take_length]at hn
     have hV:=b1D.2 hn;have hcl2:=a6U (l:=l) (R:=R) (p:=p);refine go 7 ?_;refine a0G 79 2 ?_;refine go 9 ?_;refine a0D (d1D _ _ l hv0 oM hsl p R hRt) rfl rfl fun v49 I49 j49 q49=>?_
     try have hvc:=hvc.le j49
     try have hf:=hf.le j49
     try have hv0:=hv0.le j49
     try have hA:=hA.le j49
     try have Ro:=Ro.le j49
     try have hw70:=hw70.le j49
     obtain⟨CA,cc,rfl,hCA,hcc,hcm⟩:=q49;rw[a4J]at hcc ⊢
     refine go 5 ?_
     refine a2C ((0:Nat)) (none) (0) ([]) (fun i A16 c16 xs=>I49)
      (fun i A16 c16 xs=>[(1,.slice A l.length c0),(2,.string p),(3,.int .i64 (day)),(4,.pointer (some ⟨g4,0,none⟩)),(16,.slice A16 i c16),(49,.slice CA (ofN l R p).length cc),(50,.int .i64 (((ofN l R p).length:Nat):Int)),(51,.int .i64 ((i:Nat):Int))])
      (fun i A16 c16 xs=>[.row (.slice A16 i c16) 79 2 i xs,.blk g4 29 [vc,ci f.op,ci f.n,sf]])
      (fun i A16 c16 xs=>i≤(ofN l R p).length∧Flat I49 xs (a5i l ((ofN l R p).take i)))
      (fun i A16 c16 xs=>(ofN l R p).length-i) ⟨Nat.zero_le _,.nil⟩ rfl sb rfl ?_
     intro i A16 c16 xs ⟨hi,hF⟩;have hcl3:(a1e l R p).length=(ofN l R p).length:=a5j fun i hi=>b8E hi
     refine gC 6 (fun h52 p52=>?_) fun h52 p52=>?_
     ·have hlt:i<(ofN l R p).length:=oM;have hcl:(ofN l R p)[i]<l.length:=b8E (List.getElem_mem hlt);refine go 6 ?_;obtain⟨b53,o53,w53,e53,c53,r53⟩:=RdA.at_ hCA (i:=i) (by first|exact hlt|(rw[a4J];exact hlt));rw[c8G hlt]at r53
      obtain rfl:=r53;refine o_v rfl (a0i he rfl rfl e53 (i) oM (by first|exact hlt|(rw[a4J];exact hlt))) ?_;refine go 8 ?_;obtain⟨b58,o58,w58,e58,c58,r58⟩:=RdA.at_ hA (i:=(ofN l R p)[i]) hcl;obtain⟨q58,rfl,S58,d58,rfl,hS58,hd58,hm58⟩:=r58;refine o_v rfl (a0i he rfl rfl e58 ((ofN l R p)[i]) oM hcl) ?_;refine go 3 fun v60=>?_
      refine go 1 ?_;refine a0b ?_;refine a0o he he rfl rfl rfl rfl rfl oM oM rfl fun v61=>?_;refine a2I fun A61 c61 hv61=>?_;subst hv61;refine go 9 ?_;refine a0b ?_;refine a0a ?_;exact a1k (i+1) (_) (_) (_) ⟨oM,by rw[c2c hlt hcl];exact hF.append (.one ⟨_,rfl,⟨_,_,rfl,hS58,hd58,hm58⟩⟩)⟩ oM rfl sb rfl
     ·obtain rfl:i=(ofN l R p).length:=oM;rw[List.take_length]at hF
      refine a0d (l:=(a1e l R p)) rfl hcl3.symm hF fun I9 j9 Ro=>?_;have hvc:=hvc.le j9;have hf:=hf.le j9;rw[←hcl3]at Ro ⊢
      refine gC 13 (fun h65 p65=>?_) fun h65 p65=>?_
      ·refine go 10 ?_;have e:(a4R f c l (a1e l R p) day)=2:=hBE.trans (c6z (own:=(a1e l R p)) hcf.1 hV (List.eq_nil_of_length_eq_zero oM));exact q_i ⟨_,_,by rw[e]<;>rfl,fun h=>by rw[e]at h;cases h⟩
      ·have hne:(a1e l R p)≠[]:=fun e=>by rw[e]at h65;simp at h65
       have hce:=c6A (own:=(a1e l R p)) hcf.1 hV hne;have hal:(a1Y c (a1e l R p) 4096).1.length≤4096:=by have h:=(b0K (c:=c) (l:=(a1e l R p)) (a:=4096) (b:=4096) oM oM (Int.le_refl _)).2.2.1;omega
       refine go 5 ?_;refine o_v rfl (a0J ([vc]) m0 he rfl rfl rfl) ?_;refine go 2 ?_;refine a0D (d4h _ vc c hvc hsc _ (a1e l R p) Ro oM (fun r hr=>hsl r (a5Z hr)) 4096) rfl rfl fun v70 I70 j70 q70=>?_
       try have hvc:=hvc.le j70
       try have hf:=hf.le j70
       try have hv0:=hv0.le j70
       try have hA:=hA.le j70
       try have Ro:=Ro.le j70
       try have hw70:=hw70.le j70
       obtain⟨w70,rfl,hw70⟩:=q70;have hw70s:=hw70;obtain⟨A70,c70,rfl,_,_,_⟩:=hw70s;refine go 8 ?_;refine a1h (I':=I70) (L':=[(16,.slice A16 (a1e l R p).length c16),(19,.slice A70 (a1Y c (a1e l R p) 4096).1.length c70),(20,.int .i64 ((b9r c l (a1e l R p))))]) (H':=[]) ?_ ?_
       ·refine gS 5 75 (fun h75 p75=>?_) fun h75 p75=>?_
        ·refine gC 6 (fun h79 p79=>?_) fun h79 p79=>?_
         ·refine go 4 ?_;refine a0a ?_;exact a0h ⟨rfl,rfl,(congrArg (fun n:Int=>some (Value.int .i64 n)) (by rw[hce];first|rw[if_pos (by simpa using h75)] | (rw[if_neg (by simpa using h75)];first|rw[if_pos oM] | (rw[if_neg oM];simpa using h75)))),trivial⟩ rfl rfl
         ·refine go 2 ?_;refine a0a ?_;exact a0h ⟨rfl,rfl,(congrArg (fun n:Int=>some (Value.int .i64 n)) (by rw[hce];first|rw[if_pos (by simpa using h75)] | (rw[if_neg (by simpa using h75)];first|rw[if_pos oM] | (rw[if_neg oM];simpa using h75)))),trivial⟩ rfl rfl
        ·refine go 9 ?_;refine a0a ?_;exact a0h ⟨rfl,rfl,(congrArg (fun n:Int=>some (Value.int .i64 n)) (by rw[hce];first|rw[if_pos (by simpa using h75)] | (rw[if_neg (by simpa using h75)];first|rw[if_pos oM] | (rw[if_neg oM];simpa using h75)))),trivial⟩ rfl rfl
       ·refine go 12 ?_;exact q_i ⟨_,_,by rw[hBE]<;>rfl,fun _=>⟨Ro,hw70⟩⟩
theorem d0K (I:IMap) (vc:Value) (c:List Kind) (hvc:RdS I vc c) (hsc:SmC c) (f:Fm) (sf:Value) (hf:FmRd I [ci f.op,ci f.n,sf] f) (w:Value) (own:List Rep) (hw:RdS I w own) (how:own.length≤25) (hso:∀r∈own,∀e∈r.options,SmE e) (a:Value) (all:List (List Int)) (ha:RdS I a all) (p:ByteArray) (day:Int) (ga gw gs gd gp:Nat) (ka:ICells I ga 0 [a]) (kw:ICells I gw 0 [w]) (ks:ICells I gs 0 [vc,ci f.op,ci f.n,sf]) (kd:ICells I gd 0 [.int .i64 (day)]) (kp:ICells I gp 0 [.string p]) :
    d3e prog 46 [.pointer (some ⟨ga,0,none⟩),.pointer (some ⟨gw,0,none⟩),.pointer (some ⟨gs,0,none⟩),.pointer (some ⟨gd,0,none⟩),.pointer (some ⟨gp,0,none⟩)] I (fun I vs (o:Option Part)=>∃u,vs=[u]∧PtrO I u o) (fun _ _=>True) (fun pre=>pre=all.map (lifeG f c own p day)) (fun _=>True):=by
 obtain⟨AA,ca,rfl,hAA,hca,hma⟩:=ha;intro ly J I1 Hc hI1 hJm hY hJ0;have hvc:=hvc.le hI1;have hf:=hf.le hI1;have hw:=hw.le hI1;have hAA:=hAA.le hI1;have ka:=ka.le hI1;have kw:=kw.le hI1;have ks:=ks.le hI1;have kd:=kd.le hI1;have kp:=kp.le hI1;refine enter func46 call46 rfl ntmps46 rfl fun w0=>?_;refine go 2 ?_;refine o_v rfl (a1X he rfl (ka 0 _ rfl)) ?_;refine go 5 ?_
 refine a2C ((0:Nat)) ([]) (I1) (Hc) (fun i pre I2 Hc=>I2)
  (fun i pre I2 Hc=>[(0,.func (.yield ly) #[] #[]),(1,.pointer (some ⟨ga,0,none⟩)),(2,.pointer (some ⟨gw,0,none⟩)),(3,.pointer (some ⟨gs,0,none⟩)),(4,.pointer (some ⟨gd,0,none⟩)),(5,.pointer (some ⟨gp,0,none⟩)),(17,.slice AA all.length ca),(18,.int .i64 ((all.length:Nat):Int)),(19,.int .i64 ((i:Nat):Int))])
  (fun i pre I2 Hc=>Hc)
  (fun i pre I2 Hc=>i≤all.length∧ILe I1 I2∧pre=((all.take i).map (lifeG f c own p day))∧J true pre I2 Hc)
  (fun i pre I2 Hc=>all.length-i) ⟨Nat.zero_le _,ILe.refl _,rfl,hJ0⟩ rfl sb rfl ?_
 intro i pre I2 Hc ⟨hi,hI2,hpre,hJ⟩;have hvc:=hvc.le hI2;have hf:=hf.le hI2;have hw:=hw.le hI2;have hAA:=hAA.le hI2;have ka:=ka.le hI2;have kw:=kw.le hI2;have ks:=ks.le hI2;have kd:=kd.le hI2;have kp:=kp.le hI2;refine gC 6 (fun h20 p20=>?_) fun h20 p20=>?_
 ·have hlt:i<all.length:=oM;have hpl:=a9Y own all[i];refine go 6 ?_;obtain⟨b21,o21,w21,e21,c21,r21⟩:=RdA.at_ hAA (i:=i) oM;obtain⟨q21,rfl,S21,d21,rfl,hS21,hd21,hm21⟩:=r21;refine go 7 ?_;refine o_v rfl (a1X he rfl (kw 0 _ rfl)) ?_;refine go 2 ?_;refine a0D (c2p _ _ own hw oM hso _ all[i] ⟨_,_,rfl,hS21,hd21,hm21⟩) rfl rfl fun v26 I26 j26 q26=>?_
  try have hvc:=hvc.le j26
  try have hf:=hf.le j26
  try have hw:=hw.le j26
  try have hAA:=hAA.le j26
  try have ka:=ka.le j26
  try have kw:=kw.le j26
  try have ks:=ks.le j26
  try have kd:=kd.le j26
  try have kp:=kp.le j26
  try have hz26:=hz26.le j26
  try have hwb:=hwb.le j26
  have hJ:=hJm _ _ _ _ _ j26 hJ;obtain⟨z26,rfl,hz26⟩:=q26;refine go 9 ?_;refine o_v rfl (a2P he rfl ks rfl) ?_;refine go 1 ?_;refine o_v rfl (a1X he rfl (kd 0 _ rfl)) ?_;refine go 1 ?_;refine a0D (c1m _ vc c hvc hsc f sf hf _ (a1j own all[i]).1 hz26 oM (a9Z hso) day) rfl rfl fun v33 I33 j33 q33=>?_
  try have hvc:=hvc.le j33
  try have hf:=hf.le j33
  try have hw:=hw.le j33
  try have hAA:=hAA.le j33
  try have ka:=ka.le j33
  try have kw:=kw.le j33
  try have ks:=ks.le j33
  try have kd:=kd.le j33
  try have kp:=kp.le j33
  try have hz26:=hz26.le j33
  try have hwb:=hwb.le j33
  have hJ:=hJm _ _ _ _ _ j33 hJ;obtain⟨wb,rfl,hwb⟩:=q33;refine go 6 fun g11=>?_
  refine go 1 ?_;refine a1A _ he rfl rfl rfl rfl rfl (by simp[RdS.one hwb]) ?_;refine go 13 ?_;refine o_v rfl (a1X he rfl (kp 0 _ rfl)) ?_;refine go 1 ?_;refine a2p (d1n _ _ _ hwb p) rfl rfl fun v40 q40=>?_;obtain⟨vs40,rfl,s40,rfl,hs40⟩:=q40;refine go 5 fun g15=>?_
  refine go 1 ?_;refine a1A _ he rfl rfl rfl rfl rfl (Enc.one (α:=Part) (x:=(a0C (runL f c (a1j own all[i]).1 day).1 p).getD zPart) ⟨s40,rfl,hs40⟩) ?_;refine gC 8 (fun h43 p43=>?_) fun h43 p43=>?_
  ·refine go 9 ?_;refine a1Z fun Ig15 jg15 cg15=>?_
   try have hvc:=hvc.le jg15
   try have hf:=hf.le jg15
   try have hw:=hw.le jg15
   try have hAA:=hAA.le jg15
   try have ka:=ka.le jg15
   try have kw:=kw.le jg15
   try have ks:=ks.le jg15
   try have kd:=kd.le jg15
   try have kp:=kp.le jg15
   try have hz26:=hz26.le jg15
   try have hwb:=hwb.le jg15
   have hJ:=hJm _ _ _ _ _ jg15 hJ;refine b6R ((lifeG f c own p day all[i])) hY (hJm _ _ _ _ _ (ILe.refl _) hJ) (⟨_,rfl,(by first|exact b7c h43 cg15 hs40.one|exact b7b h43)⟩) (trivial) rfl rfl rfl fun b46 I46 Hc46 j46 hJ46=>?_
   try have hvc:=hvc.le j46
   try have hf:=hf.le j46
   try have hw:=hw.le j46
   try have hAA:=hAA.le j46
   try have ka:=ka.le j46
   try have kw:=kw.le j46
   try have ks:=ks.le j46
   try have kd:=kd.le j46
   try have kp:=kp.le j46
   try have hz26:=hz26.le j46
   try have hwb:=hwb.le j46
   have hJ:=hJm _ _ _ _ _ j46 hJ;refine gC 3 (fun h47 p47=>?_) fun h47 p47=>?_
   ·have hb46:b46=false:=by simpa using h47
    refine go 6 ?_;refine a0a ?_;subst hb46;exact d0v false _ hJ46 trivial
   ·have hb46:b46=true:=by simpa using h47
    refine go 8 ?_;refine a0a ?_;exact a1k (i+1) (pre++[(lifeG f c own p day all[i])]) (I46) (Hc46) ⟨oM,hI2.trans (j26.trans (j33.trans (jg15.trans j46))),by rw[←a0e hlt,List.map_append,hpre];rfl,hb46▸hJ46⟩ oM rfl sb rfl
  ·refine go 7 ?_;refine a1Z fun Ig15 jg15 cg15=>?_
   try have hvc:=hvc.le jg15
   try have hf:=hf.le jg15
   try have hw:=hw.le jg15
   try have hAA:=hAA.le jg15
   try have ka:=ka.le jg15
   try have kw:=kw.le jg15
   try have ks:=ks.le jg15
   try have kd:=kd.le jg15
   try have kp:=kp.le jg15
   try have hz26:=hz26.le jg15
   try have hwb:=hwb.le jg15
   have hJ:=hJm _ _ _ _ _ jg15 hJ;refine b6R ((lifeG f c own p day all[i])) hY (hJm _ _ _ _ _ (ILe.refl _) hJ) (⟨_,rfl,(by first|exact b7c h43 cg15 hs40.one|exact b7b h43)⟩) (trivial) rfl rfl rfl fun b46 I46 Hc46 j46 hJ46=>?_
   try have hvc:=hvc.le j46
   try have hf:=hf.le j46
   try have hw:=hw.le j46
   try have hAA:=hAA.le j46
   try have ka:=ka.le j46
   try have kw:=kw.le j46
   try have ks:=ks.le j46
   try have kd:=kd.le j46
   try have kp:=kp.le j46
   try have hz26:=hz26.le j46
   try have hwb:=hwb.le j46
   have hJ:=hJm _ _ _ _ _ j46 hJ;refine gC 3 (fun h47 p47=>?_) fun h47 p47=>?_
   ·have hb46:b46=false:=by simpa using h47
    refine go 6 ?_;refine a0a ?_;subst hb46;exact d0v false _ hJ46 trivial
   ·have hb46:b46=true:=by simpa using h47
    refine go 8 ?_;refine a0a ?_;exact a1k (i+1) (pre++[(lifeG f c own p day all[i])]) (I46) (Hc46) ⟨oM,hI2.trans (j26.trans (j33.trans (jg15.trans j46))),by rw[←a0e hlt,List.map_append,hpre];rfl,hb46▸hJ46⟩ oM rfl sb rfl
 ·have e:i=all.length:=oM;subst e;rw[List.take_length]at hpre
  refine go 5 ?_;exact d0v true _ hJ hpre
theorem b5X (I:IMap) (vc:Value) (c:List Kind) (hvc:RdS I vc c) (hsc:SmC c) (f:Fm) (sf:Value) (hf:FmRd I [ci f.op,ci f.n,sf] f) (w:Value) (own:List Rep) (hw:RdS I w own) (how:own.length≤25) (hso:∀r∈own,∀e∈r.options,SmE e) (a:Value) (all:List (List Int)) (ha:RdS I a all) (p:ByteArray) (day:Int)  :
    FnI prog 27 #[.agg #[vc,ci f.op,ci f.n,sf],w,a,.string p,.int .i64 (day)] I (fun u J=>∃ga gw gs gd gp,u = .func (.func 46) #[] #[.pointer (some ⟨ga,0,none⟩),.pointer (some ⟨gw,0,none⟩),.pointer (some ⟨gs,0,none⟩),.pointer (some ⟨gd,0,none⟩),.pointer (some ⟨gp,0,none⟩)]∧RdS J w own∧RdS J a all∧ICells J ga 0 [a]∧ICells J gw 0 [w]∧ICells J gs 0 [vc,ci f.op,ci f.n,sf]∧ICells J gd 0 [.int .i64 (day)]∧ICells J gp 0 [.string p]):=by
 have ha0:=ha;obtain⟨AA,ca,rfl,_,_,_⟩:=ha0;have hw0:=hw;obtain⟨AW,cw,rfl,_,_,_⟩:=hw0;refine enter func27 call27 rfl ntmps27 rfl fun w0=>?_;refine go 4 fun g5=>?_
 refine go 2 fun g6=>?_
 refine go 2 fun g7=>?_
 refine go 2 fun g8=>?_
 refine go 2 fun g9=>?_
 refine go 5 ?_;refine a0c ?_;refine a1Z fun Ig7 jg7 cg7=>?_;have hw:=hw.le jg7;have ha:=ha.le jg7;refine a0c ?_;refine a1Z fun Ig6 jg6 cg6=>?_;have hw:=hw.le jg6;have ha:=ha.le jg6;have cg7:=cg7.le jg6;refine a0c ?_;refine a1Z fun Ig5 jg5 cg5=>?_;have hw:=hw.le jg5;have ha:=ha.le jg5;have cg7:=cg7.le jg5;have cg6:=cg6.le jg5;refine a1Z fun Ig9 jg9 cg9=>?_;have hw:=hw.le jg9;have ha:=ha.le jg9;have cg7:=cg7.le jg9;have cg6:=cg6.le jg9;have cg5:=cg5.le jg9;refine a1Z fun Ig8 jg8 cg8=>?_;have hw:=hw.le jg8;have ha:=ha.le jg8;have cg7:=cg7.le jg8;have cg6:=cg6.le jg8;have cg5:=cg5.le jg8;have cg9:=cg9.le jg8;refine go 6 ?_;exact q_i ⟨g7,g6,g5,g9,g8,rfl,hw,ha,cg7,cg6,cg5,cg9,cg8⟩
theorem c3K (I:IMap) (vc:Value) (c:List Kind) (hvc:RdS I vc c) (hsc:SmC c) (f:Fm) (sf:Value) (hf:FmRd I [ci f.op,ci f.n,sf] f) (v:Value) (l:List Rep) (hv:RdS I v l) (hl:l.length≤25) (hsl:∀r∈l,∀e∈r.options,SmE e) (R:Nat→Nat) (hRt:Rts l R) (p:ByteArray) (day:Int) {σ:Type} (enc:σ→List Value) (s0:σ) (he0:enc s0=[.bool false,.int .i64 0,.int .i64 0,.bool false,.int .i64 0,.int .i64 0,.bool false,.int .i64 0,.int .i64 0]) (hen:∀s,(enc s).length=9) (hoc:∀s,(enc s).all Value.oneCell'=true) (g:σ→Option Part→σ) (F:FuncId) (cs:List Value) (hsh:∀J,ILe I J→∀(b:Nat) (s:σ) (u:Value) (o:Option Part),PtrO J u o→FnM prog F (.pointer (some ⟨b,0,none⟩)::u::cs).toArray J (.blk b 47 (enc s)) (.blk b 47 (enc (g s o)))) :
    FnI prog 12 #[.agg #[vc,ci f.op,ci f.n,sf],v,.string p,.int .i64 (day),.func (.func F) #[] cs.toArray] I (fun u J=>u = .tuple #[.agg (enc (bndS s0 g f c l (a1e l R p) p day)).toArray,.int .i64 (bndA f c l (a1e l R p) p day)]):=by
 refine enter func12 call12 rfl ntmps12 rfl fun w0=>?_;refine go 4 fun g5=>?_
 refine go 2 fun g9=>?_
 refine go 2 fun g10=>?_
 refine go 7 fun g12=>?_
 refine a2x (enc s0) he0.symm ?_;refine go 2 fun g13=>?_
 refine go 9 ?_;refine a0D (b9H _ vc c hvc hsc f sf hf v l hv hl hsl R hRt p day) rfl rfl fun v24 I24 j24 q24=>?_
 try have hvc:=hvc.le j24
 try have hf:=hf.le j24
 try have hv:=hv.le j24
 obtain⟨w,a,rfl,hwa⟩:=q24;refine gC 16 (fun h29 p29=>?_) fun h29 p29=>?_
 ·refine go 5 ?_;refine a0c ?_;refine go 6 ?_;refine c8e rfl ⟨_,_,_,rfl,m0,.inr ⟨_,he,(by first|rfl|exact hen _),rfl⟩⟩ rfl ?_;have e:(bndA f c l (a1e l R p) p day)=(a4R f c l (a1e l R p) day):=if_pos p29;exact q_i (by unfold bndS;rw[e,if_neg p29,he0]<;>rfl)
 ·have h0:(a4R f c l (a1e l R p) day)=0:=by simpa using h29
  obtain⟨rw,ra⟩:=hwa h0;have hBA:(bndA f c l (a1e l R p) p day)=if (lifeA f c (a1e l R p) p day).any Option.isSome=false then 2 else 0:=if_neg (by simp[h0])
  refine go 6 fun g17=>?_
  refine go 13 ?_;refine a0D (b5X _ vc c hvc hsc f sf hf w (a1e l R p) rw (Nat.le_trans a6U hl) (fun r hr=>hsl r (a5Z hr)) a (a1Y c (a1e l R p) 4096).1 ra p day) rfl rfl fun v37 I37 j37 q37=>?_
  try have hvc:=hvc.le j37
  try have hf:=hf.le j37
  try have hv:=hv.le j37
  obtain⟨ga,gw,gs,gd,gp,rfl,rw2,ra2,ka,kw,ks,kd,kp⟩:=q37;refine go 3 ?_;refine a0A ?_;refine a0A ?_;refine a0A ?_;refine a0A ?_;refine a0A ?_;refine b1K (σ:=σ×Bool) (ps:=[38]) (s0,false) (fun ⟨s,b⟩=>[.blk g17 4 [.bool b],.blk g13 47 [.bool false,.int .i64 0,.int .i64 0,.bool false,.int .i64 0,.int .i64 0,.bool false,.int .i64 0,.int .i64 0],.blk g12 47 (enc s),.blk g10 47 [.bool false,.int .i64 0,.int .i64 0,.bool false,.int .i64 0,.int .i64 0,.bool false,.int .i64 0,.int .i64 0],.blk g9 57 [.func (.func F) #[] cs.toArray]]) (fun pre I ⟨s,b⟩=>s=pre.foldl g s0∧b=pre.any Option.isSome) (fun _ _ _ _=>False) rfl call46 (d0K _ vc c hvc hsc f sf hf w (a1e l R p) rw2 (Nat.le_trans a6U hl) (fun r hr=>hsl r (a5Z hr)) a (a1Y c (a1e l R p) 4096).1 ra2 p day ga gw gs gd gp ka kw ks kd kp) (fun I vs x h=>by obtain⟨u,rfl,_⟩:=h;rfl) rfl (fun pre I I' s hI h=>by obtain⟨s,b⟩:=s;exact h) (fun _ _ _ _ _ _ h=>h) (⟨rfl,rfl⟩) rfl ?_ ?_ ?_
  ·rintro r E1 pre o vs I1 ⟨s,b⟩ hI1 ⟨hs,hb⟩ ⟨u,rfl,hu⟩ _;obtain⟨pp,rfl,_⟩:=hu.val;refine c2H ?_;refine go 3 ?_;refine b2t ?_;refine go 6 ?_;refine a0A ?_;refine a4v (hsh _ ((j24.trans j37).trans hI1) g12 s _ o hu) rfl rfl ?_;refine gS 5 43 (fun h43 p43=>?_) fun h43 p43=>?_
   ·refine go 4 ?_;refine a0p ?_;refine go 3 ?_;refine a0W ?_;refine a0W ?_;refine a0p ?_;refine a0W ?_;refine a0A ?_;refine a0W ?_;refine a0W ?_;exact b1j ((g s o,b||o.isSome)) (hI1) (⟨by rw[hs,List.foldl_append];rfl,by rw[hb,List.any_append];simp⟩) (by simp[h43,a5y hu])
   ·refine go 1 ?_;refine a0P (a0z rfl rfl h43 (a0k rfl (b7Q he rfl rfl) ?_));refine go 2 ?_;refine a0p ?_;refine go 3 ?_;refine a0W ?_;refine a0W ?_;refine a0p ?_;refine a0W ?_;refine a0A ?_;refine a0W ?_;refine a0W ?_;exact b1j ((g s o,b||o.isSome)) (hI1) (⟨by rw[hs,List.foldl_append];rfl,by rw[hb,List.any_append];simp⟩) (by simp[h43,a5y hu])
  ·rintro D pre I1 ⟨s,b⟩ hI1 rfl ⟨hs,hb⟩;rw[a5W]at hs hb
   refine c2G ?_;refine gC 9 (fun h48 p48=>?_) fun h48 p48=>?_
   ·refine go 4 ?_;refine a0A ?_;refine go 6 ?_;refine a0b ?_;refine a7E ?_;refine c8e rfl ⟨_,_,_,rfl,m1,.inr ⟨_,he,(by first|rfl|exact hen _),rfl⟩⟩ rfl ?_;have e:(bndA f c l (a1e l R p) p day)=2:=by rw[hBA,if_pos (by rw[←hb];simpa using h48)]
    exact q_i (by unfold bndS;rw[e,if_neg (by decide),he0]<;>rfl)
   ·refine go 4 ?_;refine o_v rfl (a4n m3 he rfl (hen _)) ?_;refine go 1 ?_;refine a0A ?_;refine a1A _ he rfl rfl rfl (hen _) rfl (hoc _) ?_;refine go 4 ?_;refine a0b ?_;refine a7E ?_;refine c8e rfl ⟨_,_,_,rfl,m1,.inr ⟨_,he,(by first|rfl|exact hen _),rfl⟩⟩ rfl ?_;have e:(bndA f c l (a1e l R p) p day)=0:=by rw[hBA,if_neg (by rw[←hb];simpa using h48)]
    exact q_i (by unfold bndS;rw[e,if_pos rfl,hs]<;>rfl)
  ·rintro D pre I1 s cd hI1 hpart h;exact h.elim
theorem c3J (I:IMap) (vc:Value) (c:List Kind) (hvc:RdS I vc c) (hsc:SmC c) (f:Fm) (sf:Value) (hf:FmRd I [ci f.op,ci f.n,sf] f) (v:Value) (l:List Rep) (hv:RdS I v l) (hl:l.length≤25) (hsl:∀r∈l,∀e∈r.options,SmE e) (R:Nat→Nat) (hRt:Rts l R) (p:ByteArray) (day:Int) {σ:Type} (enc:σ→List Value) (s0:σ) (he0:enc s0=[.bool false,.int .i64 0,.int .i64 0]) (hen:∀s,(enc s).length=3) (hoc:∀s,(enc s).all Value.oneCell'=true) (g:σ→Option Part→σ) (F:FuncId) (cs:List Value) (hsh:∀J,ILe I J→∀(b:Nat) (s:σ) (u:Value) (o:Option Part),PtrO J u o→FnM prog F (.pointer (some ⟨b,0,none⟩)::u::cs).toArray J (.blk b 46 (enc s)) (.blk b 46 (enc (g s o)))) :
    FnI prog 18 #[.agg #[vc,ci f.op,ci f.n,sf],v,.string p,.int .i64 (day),.func (.func F) #[] cs.toArray] I (fun u J=>u = .tuple #[.agg (enc (bndS s0 g f c l (a1e l R p) p day)).toArray,.int .i64 (bndA f c l (a1e l R p) p day)]):=by
 refine enter func18 call18 rfl ntmps18 rfl fun w0=>?_;refine go 4 fun g5=>?_
 refine go 2 fun g9=>?_
 refine go 2 fun g10=>?_
 refine go 7 fun g12=>?_
 refine a2x (enc s0) he0.symm ?_;refine go 2 fun g13=>?_
 refine go 9 ?_;refine a0D (b9H _ vc c hvc hsc f sf hf v l hv hl hsl R hRt p day) rfl rfl fun v24 I24 j24 q24=>?_
 try have hvc:=hvc.le j24
 try have hf:=hf.le j24
 try have hv:=hv.le j24
 obtain⟨w,a,rfl,hwa⟩:=q24;refine gC 16 (fun h29 p29=>?_) fun h29 p29=>?_
 ·refine go 5 ?_;refine a0c ?_;refine go 6 ?_;refine c8e rfl ⟨_,_,_,rfl,m0,.inr ⟨_,he,(by first|rfl|exact hen _),rfl⟩⟩ rfl ?_;have e:(bndA f c l (a1e l R p) p day)=(a4R f c l (a1e l R p) day):=if_pos p29;exact q_i (by unfold bndS;rw[e,if_neg p29,he0]<;>rfl)
 ·have h0:(a4R f c l (a1e l R p) day)=0:=by simpa using h29
  obtain⟨rw,ra⟩:=hwa h0;have hBA:(bndA f c l (a1e l R p) p day)=if (lifeA f c (a1e l R p) p day).any Option.isSome=false then 2 else 0:=if_neg (by simp[h0])
  refine go 6 fun g17=>?_
  refine go 13 ?_;refine a0D (b5X _ vc c hvc hsc f sf hf w (a1e l R p) rw (Nat.le_trans a6U hl) (fun r hr=>hsl r (a5Z hr)) a (a1Y c (a1e l R p) 4096).1 ra p day) rfl rfl fun v37 I37 j37 q37=>?_
  try have hvc:=hvc.le j37
  try have hf:=hf.le j37
  try have hv:=hv.le j37
  obtain⟨ga,gw,gs,gd,gp,rfl,rw2,ra2,ka,kw,ks,kd,kp⟩:=q37;refine go 3 ?_;refine a0A ?_;refine a0A ?_;refine a0A ?_;refine a0A ?_;refine a0A ?_;refine b1K (σ:=σ×Bool) (ps:=[38]) (s0,false) (fun ⟨s,b⟩=>[.blk g17 4 [.bool b],.blk g13 46 [.bool false,.int .i64 0,.int .i64 0],.blk g12 46 (enc s),.blk g10 46 [.bool false,.int .i64 0,.int .i64 0],.blk g9 68 [.func (.func F) #[] cs.toArray]]) (fun pre I ⟨s,b⟩=>s=pre.foldl g s0∧b=pre.any Option.isSome) (fun _ _ _ _=>False) rfl call46 (d0K _ vc c hvc hsc f sf hf w (a1e l R p) rw2 (Nat.le_trans a6U hl) (fun r hr=>hsl r (a5Z hr)) a (a1Y c (a1e l R p) 4096).1 ra2 p day ga gw gs gd gp ka kw ks kd kp) (fun I vs x h=>by obtain⟨u,rfl,_⟩:=h;rfl) rfl (fun pre I I' s hI h=>by obtain⟨s,b⟩:=s;exact h) (fun _ _ _ _ _ _ h=>h) (⟨rfl,rfl⟩) rfl ?_ ?_ ?_
  ·rintro r E1 pre o vs I1 ⟨s,b⟩ hI1 ⟨hs,hb⟩ ⟨u,rfl,hu⟩ _;obtain⟨pp,rfl,_⟩:=hu.val;refine c2H ?_;refine go 3 ?_;refine b2t ?_;refine go 6 ?_;refine a0A ?_;refine a4v (hsh _ ((j24.trans j37).trans hI1) g12 s _ o hu) rfl rfl ?_;refine gS 5 43 (fun h43 p43=>?_) fun h43 p43=>?_
   ·refine go 4 ?_;refine a0p ?_;refine go 3 ?_;refine a0W ?_;refine a0W ?_;refine a0p ?_;refine a0W ?_;refine a0A ?_;refine a0W ?_;refine a0W ?_;exact b1j ((g s o,b||o.isSome)) (hI1) (⟨by rw[hs,List.foldl_append];rfl,by rw[hb,List.any_append];simp⟩) (by simp[h43,a5y hu])
   ·refine go 1 ?_;refine a0P (a0z rfl rfl h43 (a0k rfl (b7Q he rfl rfl) ?_));refine go 2 ?_;refine a0p ?_;refine go 3 ?_;refine a0W ?_;refine a0W ?_;refine a0p ?_;refine a0W ?_;refine a0A ?_;refine a0W ?_;refine a0W ?_;exact b1j ((g s o,b||o.isSome)) (hI1) (⟨by rw[hs,List.foldl_append];rfl,by rw[hb,List.any_append];simp⟩) (by simp[h43,a5y hu])
  ·rintro D pre I1 ⟨s,b⟩ hI1 rfl ⟨hs,hb⟩;rw[a5W]at hs hb
   refine c2G ?_;refine gC 9 (fun h48 p48=>?_) fun h48 p48=>?_
   ·refine go 4 ?_;refine a0A ?_;refine go 6 ?_;refine a0b ?_;refine a7E ?_;refine c8e rfl ⟨_,_,_,rfl,m1,.inr ⟨_,he,(by first|rfl|exact hen _),rfl⟩⟩ rfl ?_;have e:(bndA f c l (a1e l R p) p day)=2:=by rw[hBA,if_pos (by rw[←hb];simpa using h48)]
    exact q_i (by unfold bndS;rw[e,if_neg (by decide),he0]<;>rfl)
   ·refine go 4 ?_;refine o_v rfl (a4n m3 he rfl (hen _)) ?_;refine go 1 ?_;refine a0A ?_;refine a1A _ he rfl rfl rfl (hen _) rfl (hoc _) ?_;refine go 4 ?_;refine a0b ?_;refine a7E ?_;refine c8e rfl ⟨_,_,_,rfl,m1,.inr ⟨_,he,(by first|rfl|exact hen _),rfl⟩⟩ rfl ?_;have e:(bndA f c l (a1e l R p) p day)=0:=by rw[hBA,if_neg (by rw[←hb];simpa using h48)]
    exact q_i (by unfold bndS;rw[e,if_pos rfl,hs]<;>rfl)
  ·rintro D pre I1 s cd hI1 hpart h;exact h.elim
theorem b1H (I:IMap) (vc:Value) (c:List Kind) (hvc:RdS I vc c) (hsc:SmC c) (f:Fm) (sf:Value) (hf:FmRd I [ci f.op,ci f.n,sf] f) (v:Value) (l:List Rep) (hv:RdS I v l) (hl:l.length≤25) (hsl:∀r∈l,∀e∈r.options,SmE e) (R:Nat→Nat) (hRt:Rts l R) (p:ByteArray) (day:Int)  :
    FnI prog 6 #[.agg #[vc,ci f.op,ci f.n,sf],v,.string p,.int .i64 (day)] I (fun u J=>u = .tuple #[.agg (bndLife f c l (a1e l R p) p day).1.cells.toArray,.int .i64 (bndLife f c l (a1e l R p) p day).2]):=by
 refine enter func6 call6 rfl ntmps6 rfl fun w0=>?_;refine go 4 fun g4=>?_
 refine go 2 fun g8=>?_
 refine go 10 ?_;refine a0D (c3K _ vc c hvc hsc f sf hf v l hv hl hsl R hRt p day (fun (xs:H3s)=>(xs.1.map hcl).flatten) z3 rfl d1p d1q g3F 13 [] (fun J hJ b s u o hu=>c7v J b s.1 s.2 u o hu)) rfl rfl fun v17 I17 j17 q17=>?_
 try have hvc:=hvc.le j17
 try have hf:=hf.le j17
 try have hv:=hv.le j17
 obtain rfl:=q17;obtain⟨x0,x1,x2,hS⟩:=c0R (bndS z3 g3F f c l (a1e l R p) p day);obtain⟨hq,hq2⟩:=d4w hS;rw[hS];refine go 5 fun g10=>?_
 refine go 7 ?_;refine o_v rfl (a5o he rfl rfl 0 rfl oM) ?_;refine go 1 ?_;refine o_v rfl (a0J (x0.2.cells) m0 he rfl rfl rfl) ?_;refine o_v rfl (a5o he rfl rfl 1 rfl oM) ?_;refine go 1 ?_;refine o_v rfl (a0J (x1.2.cells) m0 he rfl rfl rfl) ?_;refine o_v rfl (a5o he rfl rfl 2 rfl oM) ?_;refine go 1 ?_;refine o_v rfl (a0J (x2.2.cells) m0 he rfl rfl rfl) ?_;refine go 3 ?_;refine a0b ?_;refine go 6 ?_;exact q_i (by rw[hq,hq2]<;>rfl)
theorem c7u (I:IMap) (b:Nat) (x:Hu) (u:Value) (o:Option Part) (hu:PtrO I u o) (s:ByteArray) (day:Int) (ga gd:Nat) (ka:ICells I ga 0 [.string s]) (kd:ICells I gd 0 [.int .i64 (day)]) :
    FnM prog 19 #[.pointer (some ⟨b,0,none⟩),u,.pointer (some ⟨ga,0,none⟩),.pointer (some ⟨gd,0,none⟩)] I (.blk b 46 (hcl x)) (.blk b 46 (hcl (b3J x (a8D s day o)))):=by
 obtain⟨pp,rfl,hpp⟩:=hu.val;refine enter func19 call19 rfl ntmps19 rfl fun w0=>?_;refine go 4 fun g6=>?_
 refine go 3 ?_;refine a1h (I':=I) (L':=[(0,.pointer (some ⟨b,0,none⟩)),(6,.pointer (some ⟨g6,0,none⟩))]) (H':=[.blk g6 34 (a8D s day o).cells,.blk b 46 (hcl x)]) ?_ ?_
 ·refine go 3 ?_;refine o_v rfl (b7Q he rfl rfl) ?_;refine gC 2 (fun h8 p8=>?_) fun h8 p8=>?_
  ·obtain⟨q,gq,w,rfl,rfl,cu,hw⟩:=hpp.resolve_left (by rintro⟨rfl,_⟩;simp at h8);refine ds1 ?_;refine dG 0 2 ?_;refine a0F 2 rfl rfl (by kernel_rfl) rfl (.cons _ (.refl _)) rfl (a2P he rfl cu rfl) ?_;refine a0F 3 rfl rfl (by kernel_rfl) rfl (.cons _ (.refl _)) rfl (a1X he rfl (ka 0 _ rfl)) ?_;refine a0F 4 rfl rfl (by kernel_rfl) rfl (.cons _ (.refl _)) rfl (a1X he rfl (kd 0 _ rfl)) ?_;refine dH 5 0 ?_;refine cV (c1n _ q w hw s day) ?_;refine dH 6 3 ?_;refine go 4 ?_;exact a0h sb rfl rfl
  ·obtain⟨rfl,rfl⟩:pp=none∧o=none:=hpp.resolve_right (by rintro⟨q,g,w,rfl,_⟩;simp at h8);refine go 2 ?_;exact a0h sb rfl rfl
 ·refine go 4 ?_;refine a0b ?_;refine a4v (c0Y (xss:=[hcl x]) _ b 46 0 (c6I [x]) x rfl (a8D s day o) 0 rfl) rfl rfl ?_;refine go 2 ?_;refine a0b ?_;refine a0a ?_;exact q_m
theorem a7f (I:IMap) (vc:Value) (c:List Kind) (hvc:RdS I vc c) (hsc:SmC c) (f:Fm) (sf:Value) (hf:FmRd I [ci f.op,ci f.n,sf] f) (v:Value) (l:List Rep) (hv:RdS I v l) (hl:l.length≤25) (hsl:∀r∈l,∀e∈r.options,SmE e) (R:Nat→Nat) (hRt:Rts l R) (p:ByteArray) (s:ByteArray) (day:Int)  :
    FnI prog 8 #[.agg #[vc,ci f.op,ci f.n,sf],v,.string p,.string s,.int .i64 (day)] I (fun u J=>u = .tuple #[.agg (bndVal s f c l (a1e l R p) p day).1.cells.toArray,.int .i64 (bndVal s f c l (a1e l R p) p day).2]):=by
 refine enter func8 call8 rfl ntmps8 rfl fun w0=>?_;refine go 4 fun g5=>?_
 refine go 2 fun g8=>?_
 refine go 2 fun g9=>?_
 refine go 2 fun g10=>?_
 refine go 8 ?_;refine cV (d1C _ s) ?_;refine gC 3 (fun h16 p16=>?_) fun h16 p16=>?_
 ·refine go 11 ?_;have e:(bndVal s f c l (a1e l R p) p day)=(a3n,15):=if_pos (by simpa using h16);exact q_i (by rw[e]<;>rfl)
 ·have hcu:a5x s=true:=by simpa using h16
  have hBV:(bndVal s f c l (a1e l R p) p day)=bndF (a8D s day) f c l (a1e l R p) p day:=if_neg (by rw[hcu];decide);refine go 8 ?_;refine a0c ?_;refine a1Z fun Ig8 jg8 cg8=>?_;have hvc:=hvc.le jg8;have hf:=hf.le jg8;have hv:=hv.le jg8;refine a0b ?_;refine a1Z fun Ig9 jg9 cg9=>?_;have hvc:=hvc.le jg9;have hf:=hf.le jg9;have hv:=hv.le jg9;have cg8:=cg8.le jg9;refine go 2 ?_;refine a0D (c3J _ vc c hvc hsc f sf hf v l hv hl hsl R hRt p day hcl ((false,a3n):Hu) rfl (fun _=>rfl) (fun _=>rfl) (fun h o=>b3J h (a8D s day o)) 19 [.pointer (some ⟨g8,0,none⟩),.pointer (some ⟨g9,0,none⟩)] (fun J hJ b x u o hu=>c7u J b x u o hu s day g8 g9 (cg8.le hJ) (cg9.le hJ))) rfl rfl fun v24 I24 j24 q24=>?_
  try have hvc:=hvc.le j24
  try have hf:=hf.le j24
  try have hv:=hv.le j24
  obtain rfl:=q24;have hq:=d3g (f:=f) (c:=c) (l:=l) (own:=(a1e l R p)) (p:=p) (day:=day) (g:=a8D s day);have hq2:=bndA_is (f:=f) (c:=c) (l:=l) (own:=(a1e l R p)) (p:=p) (day:=day) (g:=a8D s day);obtain⟨x0,hS⟩:∃q,q=bndS ((false,a3n):Hu) (fun h o=>b3J h (a8D s day o)) f c l (a1e l R p) p day:=⟨_,rfl⟩;rw[←hS]at hq ⊢
  refine go 5 fun g12=>?_
  refine go 8 ?_;refine o_v rfl (a0J (x0.2.cells) m0 he rfl rfl rfl) ?_;refine go 2 ?_;refine a0b ?_;refine go 6 ?_;exact q_i (by rw[hBV,←hq,hq2]<;>rfl)
end Go.Proofs.YtkndpfncklhhlaaGreat
set_option linter.all false
namespace Go.Sx
open Go
def b4L (c:List Kind) (f:Fm) (l:List Rep):Bool:=b8f c f [] 0&&b8g l 729
theorem c4c {c:List Kind} {f:Fm} {l:List Rep} (h:b4L c f l=true):SmC c∧l.length≤12∧(∀r∈l,∀e∈r.options,SmE e)∧b0t l≤729:=by
 simp only[b4L,Bool.and_eq_true]at h
 obtain⟨h1,h2⟩:=c4b h.2;have h3:=b4M h1;have h4:=h.1
 simp only[b8f,b7U,Bool.and_eq_true,Bool.not_eq_true',Bool.or_eq_false_iff,Bool.not_eq_false']at h4
 exact⟨c0s h4.1.1.2,by have:=h3.2;omega,h3.1,oM⟩
theorem d0N {I:IMap}:FmRd I [ci bxF.op,ci bxF.n,.slice none 0 0] bxF:=.mk 2 0 [] none 0 0 0 (fun _=>[]) (fun h=>absurd h (Nat.lt_irrefl 0)) (fun i x h=>by simp at h) (fun i x h=>by simp at h) (Nat.le_refl _) oM
section
variable {f:Fm} {c:List Kind} {l:List Rep} {R:Nat→Nat} {p:ByteArray} {day:Int}
end
end Go.Sx
namespace Go.Proofs.YtkndpfncklhhlaaGreat
open Go Go.Sx Tryz
set_option linter.all false
set_option maxRecDepth 20000
set_option maxHeartbeats 4000000
theorem T.eqg_34:prog.eqGuardType prog.depth 34=false:=by kernel_rfl
instance:Has (plK prog 27) [(0,1),(1,1),(2,1)]:=hk
instance:Has (plK prog 29) [(0,1),(1,3)]:=hk
instance:Has (plK prog 79) [(0,1),(1,1)]:=hk
instance:Has (a2r prog 29) [.slice none 0 0,.int .i64 0,.int .i64 0,.slice none 0 0]:=hk
theorem c5z (I:IMap) (vc:Value) (c:List Kind) (hvc:RdS I vc c) (f:Fm) (sf:Value) (hf:FmRd I [ci f.op,ci f.n,sf] f) (v:Value) (l:List Rep) (hv:RdS I v l) :
    FnV prog 11 #[.agg #[vc,ci f.op,ci f.n,sf],v] I (.bool (b4L c f l)):=by
 refine enter func11 call11 rfl ntmps11 rfl fun w0=>?_;refine go 4 fun g2=>?_
 refine go 7 ?_;refine cV (c5t _ vc c hvc f sf hf _ [] RdS.nil' 0) ?_;refine gS 1 7 (fun h7 p7=>?_) fun h7 p7=>?_
 ·refine go 2 ?_;refine a0z rfl rfl h7 (a0x (c5y _ v l hv 729 oM) rfl rfl ?_);refine go 6 ?_;exact q_v (congrArg Value.bool (by simp only[b4L,h7,bS]))
 ·refine go 8 ?_;exact q_v (congrArg Value.bool (by simp only[b4L,h7,bS]))
theorem c4H (I:IMap) (vc:Value) (c:List Kind) (hvc:RdS I vc c) (f:Fm) (sf:Value) (hf:FmRd I [ci f.op,ci f.n,sf] f) (v:Value) (l:List Rep) (hv:RdS I v l) :
    FnV prog 5 #[.agg #[vc,ci f.op,ci f.n,sf],v] I (.bool (b4L c f l)):=by
 refine enter func5 call5 rfl ntmps5 rfl fun w0=>?_;refine go 4 fun g2=>?_
 refine go 8 ?_;refine cV (c5z _ vc c hvc f sf hf v l hv) ?_;refine go 5 ?_;exact q_v rfl
theorem b2Q (I:IMap) (d k:Int) :
    FnV prog 23 #[.int .i64 (d),.int .i64 (k)] I (.agg (a4S d k).cells.toArray):=by
 refine enter func23 call23 rfl ntmps23 rfl fun w0=>?_;refine go 4 fun g4=>?_
 refine go 16 ?_;exact q_v rfl
theorem c0r (I:IMap) :
    FnI prog 10 #[] I (fun u J=>∃vc w,u = .tuple #[.agg #[vc,ci 2,ci 0,.slice none 0 0],w]∧RdS J vc bxC∧RdS J w bxL):=by
 refine enter func10 call10 rfl ntmps10 rfl fun w0=>?_;refine go 4 fun g0=>?_
 refine go 13 fun v5=>?_
 refine a0d (l:=bxC) rfl rfl ((.one ⟨_,rfl,RdS.nil'⟩)) fun I5 j5 R5=>?_;have R5s:=R5;obtain⟨A5,c5,rfl,_⟩:=R5s;refine go 5 fun g3=>?_
 refine go 5 ?_;refine a0b ?_;refine a3h fun hE3 hf3=>?_;refine ds1 ?_;refine dG 0 2 ?_;refine dG 4 1 ?_;refine dG 6 1 ?_;refine dT2 2 5 ?_ ?_
 ·refine go 1 fun v11=>?_
  refine a0d (l:=[a8k]) rfl rfl ((.one rfl)) fun I11 j11 R11=>?_;have R5:=R5.le j11
  try have R17:=R17.le j11
  have R11s:=R11;obtain⟨A11,c11,rfl,_⟩:=R11s;refine dG 3 1 ?_;refine dH 5 0 ?_;refine cV (b2Q _ 1 10) ?_;refine dH 7 0 ?_;refine cV (b2Q _ 2 20) ?_;refine go 1 ?_;refine dT2 8 11 ?_ ?_
  ·refine go 1 fun v17=>?_
   refine a0d (l:=[a4S 1 10,a4S 2 20]) rfl rfl (.cons rfl (.one rfl)) fun I17 j17 R17=>?_;have R5:=R5.le j17
   try have R11:=R11.le j17
   have R17s:=R17;obtain⟨A17,c17,rfl,_⟩:=R17s;refine dG 9 1 ?_;refine dT2 10 11 ?_ ?_
   ·refine go 1 fun v19=>?_
    refine a0d (l:=bxL) rfl rfl (.cons ⟨_,rfl,R11⟩ (.one ⟨_,rfl,R17⟩)) fun I19 j19 R19=>?_;have R5:=R5.le j19;refine dH 11 0 ?_;refine go 1 ?_;refine dG 12 1 ?_;refine go 4 ?_;exact q_i ⟨_,_,rfl,R5,R19⟩
   ·refine go 1 ?_;refine dH 10 0 ?_;refine go 1 fun v19=>?_
    refine a0d (l:=bxL) rfl rfl (.cons ⟨_,rfl,R11⟩ (.one ⟨_,rfl,R17⟩)) fun I19 j19 R19=>?_;have R5:=R5.le j19;refine dG 12 1 ?_;refine go 4 ?_;exact q_i ⟨_,_,rfl,R5,R19⟩
  ·refine go 1 ?_;refine dH 8 0 ?_;refine go 1 fun v17=>?_
   refine a0d (l:=[a4S 1 10,a4S 2 20]) rfl rfl (.cons rfl (.one rfl)) fun I17 j17 R17=>?_;have R5:=R5.le j17
   try have R11:=R11.le j17
   have R17s:=R17;obtain⟨A17,c17,rfl,_⟩:=R17s;refine dH 9 1 ?_;refine go 1 fun v19=>?_
   refine a0d (l:=bxL) rfl rfl (.cons ⟨_,rfl,R11⟩ (.one ⟨_,rfl,R17⟩)) fun I19 j19 R19=>?_;have R5:=R5.le j19;refine dG 12 1 ?_;refine go 4 ?_;exact q_i ⟨_,_,rfl,R5,R19⟩
 ·refine cV (b2Q _ 1 10) ?_;refine go 1 ?_;refine dT2 2 7 ?_ ?_
  ·refine go 1 fun v11=>?_
   refine a0d (l:=[a8k]) rfl rfl ((.one rfl)) fun I11 j11 R11=>?_;have R5:=R5.le j11
   try have R17:=R17.le j11
   have R11s:=R11;obtain⟨A11,c11,rfl,_⟩:=R11s;refine dG 3 1 ?_;refine dH 7 0 ?_;refine cV (b2Q _ 2 20) ?_;refine go 1 ?_;refine dT2 8 11 ?_ ?_
   ·refine go 1 fun v17=>?_
    refine a0d (l:=[a4S 1 10,a4S 2 20]) rfl rfl (.cons rfl (.one rfl)) fun I17 j17 R17=>?_;have R5:=R5.le j17
    try have R11:=R11.le j17
    have R17s:=R17;obtain⟨A17,c17,rfl,_⟩:=R17s;refine dG 9 1 ?_;refine dT2 10 11 ?_ ?_
    ·refine go 1 fun v19=>?_
     refine a0d (l:=bxL) rfl rfl (.cons ⟨_,rfl,R11⟩ (.one ⟨_,rfl,R17⟩)) fun I19 j19 R19=>?_;have R5:=R5.le j19;refine dH 11 0 ?_;refine go 1 ?_;refine dG 12 1 ?_;refine go 4 ?_;exact q_i ⟨_,_,rfl,R5,R19⟩
    ·refine go 1 ?_;refine dH 10 0 ?_;refine go 1 fun v19=>?_
     refine a0d (l:=bxL) rfl rfl (.cons ⟨_,rfl,R11⟩ (.one ⟨_,rfl,R17⟩)) fun I19 j19 R19=>?_;have R5:=R5.le j19;refine dG 12 1 ?_;refine go 4 ?_;exact q_i ⟨_,_,rfl,R5,R19⟩
   ·refine go 1 ?_;refine dH 8 0 ?_;refine go 1 fun v17=>?_
    refine a0d (l:=[a4S 1 10,a4S 2 20]) rfl rfl (.cons rfl (.one rfl)) fun I17 j17 R17=>?_;have R5:=R5.le j17
    try have R11:=R11.le j17
    have R17s:=R17;obtain⟨A17,c17,rfl,_⟩:=R17s;refine dH 9 1 ?_;refine go 1 fun v19=>?_
    refine a0d (l:=bxL) rfl rfl (.cons ⟨_,rfl,R11⟩ (.one ⟨_,rfl,R17⟩)) fun I19 j19 R19=>?_;have R5:=R5.le j19;refine dG 12 1 ?_;refine go 4 ?_;exact q_i ⟨_,_,rfl,R5,R19⟩
  ·refine cV (b2Q _ 2 20) ?_;refine go 1 ?_;refine dT3 2 8 11 ?_ ?_ ?_
   ·refine go 1 fun v11=>?_
    refine a0d (l:=[a8k]) rfl rfl ((.one rfl)) fun I11 j11 R11=>?_;have R5:=R5.le j11
    try have R17:=R17.le j11
    have R11s:=R11;obtain⟨A11,c11,rfl,_⟩:=R11s;refine dG 3 1 ?_;refine dT2 8 11 ?_ ?_
    ·refine go 1 fun v17=>?_
     refine a0d (l:=[a4S 1 10,a4S 2 20]) rfl rfl (.cons rfl (.one rfl)) fun I17 j17 R17=>?_;have R5:=R5.le j17
     try have R11:=R11.le j17
     have R17s:=R17;obtain⟨A17,c17,rfl,_⟩:=R17s;refine dG 9 1 ?_;refine dT2 10 11 ?_ ?_
     ·refine go 1 fun v19=>?_
      refine a0d (l:=bxL) rfl rfl (.cons ⟨_,rfl,R11⟩ (.one ⟨_,rfl,R17⟩)) fun I19 j19 R19=>?_;have R5:=R5.le j19;refine dH 11 0 ?_;refine go 1 ?_;refine dG 12 1 ?_;refine go 4 ?_;exact q_i ⟨_,_,rfl,R5,R19⟩
     ·refine go 1 ?_;refine dH 10 0 ?_;refine go 1 fun v19=>?_
      refine a0d (l:=bxL) rfl rfl (.cons ⟨_,rfl,R11⟩ (.one ⟨_,rfl,R17⟩)) fun I19 j19 R19=>?_;have R5:=R5.le j19;refine dG 12 1 ?_;refine go 4 ?_;exact q_i ⟨_,_,rfl,R5,R19⟩
    ·refine go 1 ?_;refine dH 8 0 ?_;refine go 1 fun v17=>?_
     refine a0d (l:=[a4S 1 10,a4S 2 20]) rfl rfl (.cons rfl (.one rfl)) fun I17 j17 R17=>?_;have R5:=R5.le j17
     try have R11:=R11.le j17
     have R17s:=R17;obtain⟨A17,c17,rfl,_⟩:=R17s;refine dH 9 1 ?_;refine go 1 fun v19=>?_
     refine a0d (l:=bxL) rfl rfl (.cons ⟨_,rfl,R11⟩ (.one ⟨_,rfl,R17⟩)) fun I19 j19 R19=>?_;have R5:=R5.le j19;refine dG 12 1 ?_;refine go 4 ?_;exact q_i ⟨_,_,rfl,R5,R19⟩
   ·refine go 1 fun v17=>?_
    refine a0d (l:=[a4S 1 10,a4S 2 20]) rfl rfl (.cons rfl (.one rfl)) fun I17 j17 R17=>?_;have R5:=R5.le j17
    try have R11:=R11.le j17
    have R17s:=R17;obtain⟨A17,c17,rfl,_⟩:=R17s;refine dG 9 1 ?_;refine dT2 2 11 ?_ ?_
    ·refine go 1 fun v11=>?_
     refine a0d (l:=[a8k]) rfl rfl ((.one rfl)) fun I11 j11 R11=>?_;have R5:=R5.le j11
     try have R17:=R17.le j11
     have R11s:=R11;obtain⟨A11,c11,rfl,_⟩:=R11s;refine dG 3 1 ?_;refine dT2 10 11 ?_ ?_
     ·refine go 1 fun v19=>?_
      refine a0d (l:=bxL) rfl rfl (.cons ⟨_,rfl,R11⟩ (.one ⟨_,rfl,R17⟩)) fun I19 j19 R19=>?_;have R5:=R5.le j19;refine dH 11 0 ?_;refine go 1 ?_;refine dG 12 1 ?_;refine go 4 ?_;exact q_i ⟨_,_,rfl,R5,R19⟩
     ·refine go 1 ?_;refine dH 10 0 ?_;refine go 1 fun v19=>?_
      refine a0d (l:=bxL) rfl rfl (.cons ⟨_,rfl,R11⟩ (.one ⟨_,rfl,R17⟩)) fun I19 j19 R19=>?_;have R5:=R5.le j19;refine dG 12 1 ?_;refine go 4 ?_;exact q_i ⟨_,_,rfl,R5,R19⟩
    ·refine go 1 ?_;refine dH 2 0 ?_;refine go 1 fun v11=>?_
     refine a0d (l:=[a8k]) rfl rfl ((.one rfl)) fun I11 j11 R11=>?_;have R5:=R5.le j11
     try have R17:=R17.le j11
     have R11s:=R11;obtain⟨A11,c11,rfl,_⟩:=R11s;refine dG 3 1 ?_;refine dH 10 0 ?_;refine go 1 fun v19=>?_
     refine a0d (l:=bxL) rfl rfl (.cons ⟨_,rfl,R11⟩ (.one ⟨_,rfl,R17⟩)) fun I19 j19 R19=>?_;have R5:=R5.le j19;refine dG 12 1 ?_;refine go 4 ?_;exact q_i ⟨_,_,rfl,R5,R19⟩
   ·refine go 2 ?_;refine dT2 2 8 ?_ ?_
    ·refine go 1 fun v11=>?_
     refine a0d (l:=[a8k]) rfl rfl ((.one rfl)) fun I11 j11 R11=>?_;have R5:=R5.le j11
     try have R17:=R17.le j11
     have R11s:=R11;obtain⟨A11,c11,rfl,_⟩:=R11s;refine dG 3 1 ?_;refine dH 8 0 ?_;refine go 1 fun v17=>?_
     refine a0d (l:=[a4S 1 10,a4S 2 20]) rfl rfl (.cons rfl (.one rfl)) fun I17 j17 R17=>?_;have R5:=R5.le j17
     try have R11:=R11.le j17
     have R17s:=R17;obtain⟨A17,c17,rfl,_⟩:=R17s;refine dH 9 1 ?_;refine go 1 fun v19=>?_
     refine a0d (l:=bxL) rfl rfl (.cons ⟨_,rfl,R11⟩ (.one ⟨_,rfl,R17⟩)) fun I19 j19 R19=>?_;have R5:=R5.le j19;refine dG 12 1 ?_;refine go 4 ?_;exact q_i ⟨_,_,rfl,R5,R19⟩
    ·refine go 1 fun v17=>?_
     refine a0d (l:=[a4S 1 10,a4S 2 20]) rfl rfl (.cons rfl (.one rfl)) fun I17 j17 R17=>?_;have R5:=R5.le j17
     try have R11:=R11.le j17
     have R17s:=R17;obtain⟨A17,c17,rfl,_⟩:=R17s;refine dG 9 1 ?_;refine dH 2 0 ?_;refine go 1 fun v11=>?_
     refine a0d (l:=[a8k]) rfl rfl ((.one rfl)) fun I11 j11 R11=>?_;have R5:=R5.le j11
     try have R17:=R17.le j11
     have R11s:=R11;obtain⟨A11,c11,rfl,_⟩:=R11s;refine dG 3 1 ?_;refine dH 10 0 ?_;refine go 1 fun v19=>?_
     refine a0d (l:=bxL) rfl rfl (.cons ⟨_,rfl,R11⟩ (.one ⟨_,rfl,R17⟩)) fun I19 j19 R19=>?_;have R5:=R5.le j19;refine dG 12 1 ?_;refine go 4 ?_;exact q_i ⟨_,_,rfl,R5,R19⟩
theorem d1r (I:IMap) :
    FnV prog 4 #[] I (.bool true):=by
 refine enter func4 call4 rfl ntmps4 rfl fun w0=>?_;obtain⟨R,hR⟩:=b7u bxL;obtain⟨ho1,ho2⟩:=c7w hR;refine go 8 ?_;refine a0D (c0r _) rfl rfl fun v15 I15 j15 q15=>?_;obtain⟨vc,w,rfl,hvc,hv⟩:=q15;have hf:FmRd I15 [ci bxF.op,ci bxF.n,.slice none 0 0] bxF:=d0N;refine go 5 fun g1=>?_
 refine go 1 ?_;refine a1A _ he rfl rfl rfl rfl rfl (by simp[hvc.one];exact⟨rfl,rfl,rfl⟩) ?_;refine go 8 ?_;refine a0D (a7f _ vc bxC hvc b2R bxF _ hf _ bxL hv (by decide) b9L R hR nV1 sKm 0) rfl rfl fun v21 I21 j21 q21=>?_
 try have hvc:=hvc.le j21
 try have hv:=hv.le j21
 try have hf:=hf.le j21
 obtain rfl:=q21;rw[ho1,d3A];refine go 5 fun g3=>?_
 refine go 10 ?_;refine a0D (a7f _ vc bxC hvc b2R bxF _ hf _ bxL hv (by decide) b9L R hR nV1 sKm 1) rfl rfl fun v27 I27 j27 q27=>?_
 try have hvc:=hvc.le j27
 try have hv:=hv.le j27
 try have hf:=hf.le j27
 obtain rfl:=q27;rw[ho1,d3B];refine go 5 fun g5=>?_
 refine go 10 ?_;refine a0D (b1H _ vc bxC hvc b2R bxF _ hf _ bxL hv (by decide) b9L R hR nV1 2) rfl rfl fun v33 I33 j33 q33=>?_
 try have hvc:=hvc.le j33
 try have hv:=hv.le j33
 try have hf:=hf.le j33
 obtain rfl:=q33;rw[ho1,c7z];refine go 5 fun g7=>?_
 refine go 10 ?_;refine a0D (b1H _ vc bxC hvc b2R bxF _ hf _ bxL hv (by decide) b9L R hR nV2 2) rfl rfl fun v39 I39 j39 q39=>?_
 try have hvc:=hvc.le j39
 try have hv:=hv.le j39
 try have hf:=hf.le j39
 obtain rfl:=q39;rw[ho2,c7A];obtain⟨z39,hz39⟩:∃q,q=(bndLife bxF bxC bxL [] nV2 2).1:=⟨_,rfl⟩;rw[←hz39];refine go 5 fun g9=>?_
 refine go 10 ?_;refine a0D (a7f _ vc bxC hvc b2R bxF _ hf _ bxL hv (by decide) b9L R hR nV1 c6X 2) rfl rfl fun v45 I45 j45 q45=>?_
 try have hvc:=hvc.le j45
 try have hv:=hv.le j45
 try have hf:=hf.le j45
 obtain rfl:=q45;rw[c3M];refine go 5 fun g11=>?_
 refine go 8 ?_;refine o_v rfl (OV.cast (u:=.bool true) (b4i rfl rfl) (congrArg Value.bool (decide_eq_true (rfl)))) ?_;refine go 3 ?_;refine a0P (a0z rfl rfl rfl (a0k rfl (OV.cast (u:=.bool true) (a5F T.eqg_34 (a9x (⟨0,0⟩:Ivl) ⟨0,0⟩) rfl rfl) (congrArg Value.bool (decide_eq_true (rfl)))) ?_));refine go 3 ?_;refine a0P (a0z rfl rfl rfl (a0k rfl (OV.cast (u:=.bool true) (b4i rfl rfl) (congrArg Value.bool (decide_eq_true (rfl)))) ?_));refine go 4 ?_;refine a0P (a0z rfl rfl rfl (a0k rfl (OV.cast (u:=.bool true) (a5F T.eqg_34 (a9x (⟨0,10⟩:Ivl) ⟨0,10⟩) rfl rfl) (congrArg Value.bool (decide_eq_true (rfl)))) ?_));refine go 3 ?_;refine a0P (a0z rfl rfl rfl (a0k rfl (OV.cast (u:=.bool true) (b4i rfl rfl) (congrArg Value.bool (decide_eq_true (rfl)))) ?_));refine go 3 ?_;refine a0P (a0z rfl rfl rfl (a0k rfl (a0J ((⟨10,20⟩:Ivl).cells) m2 he rfl rfl rfl) ?_));refine go 1 ?_;refine a0P (a0z rfl rfl rfl (a0k rfl (OV.cast (u:=.bool true) (a5F T.eqg_34 (a9x (⟨10,20⟩:Ivl) ⟨10,20⟩) rfl rfl) (congrArg Value.bool (decide_eq_true (rfl)))) ?_));refine go 9 ?_;refine a0P (a0z rfl rfl rfl (a0k rfl (a0J ((⟨10,20⟩:Ivl).cells) m2 he rfl rfl rfl) ?_));refine go 1 ?_;refine a0P (a0z rfl rfl rfl (a0k rfl (a0J ((⟨10,20⟩:Ivl).cells) m2 he rfl rfl rfl) ?_));refine a0P (a0z rfl rfl rfl (a0k rfl (OV.cast (u:=.bool true) (a5F T.eqg_34 (a9x (⟨10,20⟩:Ivl) ⟨10,20⟩) rfl rfl) (congrArg Value.bool (decide_eq_true (rfl)))) ?_));refine go 3 ?_;refine a0P (a0z rfl rfl rfl (a0k rfl (OV.cast (u:=.bool true) (b4i rfl rfl) (congrArg Value.bool (decide_eq_true (rfl)))) ?_));refine go 3 ?_;refine a0P (a0z rfl rfl rfl (a0k rfl (OV.cast (u:=.bool true) (b4i rfl rfl) (congrArg Value.bool (decide_eq_true (rfl)))) ?_));refine go 6 ?_;exact b5v rfl
end Go.Proofs.YtkndpfncklhhlaaGreat
set_option linter.all false
namespace Go.Sx
open Go
noncomputable def livG (f:Fm) (c:List Kind) (own:List Rep) (p:ByteArray) (day:Int) (t:List Int):Life:=daL (lifeG f c own p day t)
section
variable {f:Fm} {c:List Kind} {l own:List Rep} {p:ByteArray} {day:Int} {S:Life×Int} {W:List Life}
theorem c0X (h:(bndLife f c l own p day).2≠0):(bndLife f c l own p day).1=⟨a3n,a3n,a3n⟩:=by
 have h1:(bndF kmO f c l own p day).2≠0:=h;unfold bndLife;rw[a9m h1,a9m (g:=cyO) (by rw[b5Y (g':=kmO)];exact h1),a9m (g:=daO) (by rw[b5Y (g':=kmO)];exact h1)]
end
end Go.Sx
set_option linter.all false
namespace Go.Sx
open Go
def c0M (c:List Kind) (f:Fm) (l:List Rep) (day:Int):Bool:=a2m (fun _ r=>a0l r) l l.length&&(((a1a c&&a1p f)&&decide (day≥0))&&decide (day≤40000))
section
variable {f:Fm} {c:List Kind} {l own:List Rep} {p:ByteArray} {day:Int}
theorem d1o (h:c0M c f l day=false):a4R f c l own day=1:=by
 unfold a4R
 split
 ·rfl
 ·rename_i h1
  split
  ·rfl
  ·rename_i h2
   simp at h1 h2
   unfold b9r;rw[if_neg (by simp[h1.1])];rw[if_pos]
   cases ha:l.any (fun r=>!a0l r) with
   |true=>rfl
   |false=>
    have hv:=b1D.1 ha
    have:c0M c f l day=true:=by
     unfold c0M;rw[Bool.and_eq_true];refine⟨a8G.2 fun i hi=>hv _ (List.getElem_mem hi),?_⟩
     simp[h1.1,h1.2];omega
    rw[this]at h;cases h
theorem c8m (h:c0M c f l day=true):a1a c=true∧(∀r∈l,a0l r=true)∧a4R f c l own day=b9r c l own:=by
 simp only[c0M,Bool.and_eq_true,decide_eq_true_eq]at h
 obtain⟨h1,⟨⟨h2,h3⟩,h4⟩,h5⟩:=h;refine⟨h2,fun r hr=>?_,b5V ⟨h2,h3⟩ oM oM⟩;obtain⟨i,hi,rfl⟩:=List.getElem_of_mem hr;exact a8G.1 h1 i hi
def lgP (o:Option Part):Part:=o.getD zPart
theorem a4o {i:Nat} (hi:i<(a1Y c own 4096).1.length):((a1Y c own 4096).1.take (i+1)).map (lifeG f c own p day)=((a1Y c own 4096).1.take i).map (lifeG f c own p day)++[lifeG f c own p day (a1Y c own 4096).1[i]]:=by
 rw[←a0e hi,List.map_append];rfl
theorem d0I (h:a4R f c l own day=0) (h2:(lifeA f c own p day).any Option.isSome=true):bndA f c l own p day=0:=by
 unfold bndA;rw[if_neg (by simp[h]),if_neg (by rw[h2];decide)]
theorem d0J (h:a4R f c l own day=0) (h2:(lifeA f c own p day).any Option.isSome=false):bndA f c l own p day=2:=by
 unfold bndA;rw[if_neg (by simp[h]),if_pos h2]
theorem a8j (h:¬a4R f c l own day=0):bndA f c l own p day=a4R f c l own day:=if_pos h
end
def a5L (a b:Life):Life:=⟨a2y a.km b.km,a2y a.cycles b.cycles,a2y a.damage b.damage⟩
def a8p (M:List Part) (i:Nat):Life:=((M.take i).drop 1).foldl (fun z q=>a5L z q.life) ((M[0]?.getD zPart).life)
theorem b8n {M:List Part} (h:0<M.length):a8p M 1=M[0].life:=by
 cases M with
 |nil=>simp at h
 |cons x M=>rfl
theorem a1o {M:List Part} {i:Nat} (h1:1≤i) (hi:i<M.length):a8p M (i+1)=a5L (a8p M i) M[i].life:=by
 unfold a8p;rw[←a0e hi,List.drop_append_of_le_length (by rw[List.length_take];omega),List.foldl_append];rfl
theorem b0R:∀(L:List Part) (z:Life),L.foldl (fun z q=>a5L z q.life) z=⟨(L.map fun q=>q.life.km).foldl a2y z.km,(L.map fun q=>q.life.cycles).foldl a2y z.cycles,(L.map fun q=>q.life.damage).foldl a2y z.damage⟩
 | [],z=>rfl
 |q::L,z=>by rw[List.foldl_cons,b0R L];rfl
theorem b8m {f:Fm} {c:List Kind} {l own:List Rep} {p:ByteArray} {day:Int} (h:bndA f c l own p day=0):a8p ((lifeA f c own p day).map lgP) ((lifeA f c own p day).map lgP).length=(bndLife f c l own p day).1:=by
 have hn:=b1G h;have k1:(bndF kmO f c l own p day).2=0:=bndA_is.trans h;have k2:(bndF cyO f c l own p day).2=0:=bndA_is.trans h;have k3:(bndF daO f c l own p day).2=0:=bndA_is.trans h;unfold bndLife a8p;rw[(a7g k1).2.2,(a7g k2).2.2,(a7g k3).2.2,List.take_length]
 cases hL:lifeA f c own p day with
 |nil=>exact absurd hL hn
 |cons o L=>
  simp only[List.map_cons,List.drop_succ_cons,List.drop_zero]
  rw[b0R,List.map_map,List.map_map,List.map_map]
  rfl
def b0A (L:List (Option Part)) (s:ByteArray) (day:Int):Nat→Ivl
 |0=>a3n
 |i+1=>if i=0 then a8D s day (L.getD i none) else a2y (b0A L s day i) (a8D s day (L.getD i none))
theorem b0Q {s:ByteArray} {day:Int}:∀(L M:List (Option Part)),M≠[]→b0A (M++L) s day (M.length+L.length)=(L.map (a8D s day)).foldl a2y (b0A (M++L) s day M.length)
 | [],M,_=>by simp
 |o::L,M,hM=>by
  have h:=b0Q (s:=s) (day:=day) L (M++[o]) (by simp);rw[List.append_assoc,List.singleton_append,List.length_append,List.length_singleton]at h
  rw[List.length_cons,show M.length+(L.length+1)=M.length+1+L.length from oM,h,List.map_cons,List.foldl_cons]
  congr 1
  rw[b0A,if_neg (by have:=List.length_pos_iff.2 hM;omega)]
  congr 1
  simp
theorem c0H {f:Fm} {c:List Kind} {l own:List Rep} {p s:ByteArray} {day:Int} (h:bndA f c l own p day=0):b0A (lifeA f c own p day) s day (lifeA f c own p day).length=(bndF (a8D s day) f c l own p day).1:=by
 have hn:=b1G h;rw[(a7g (g:=a8D s day) (bndA_is.trans h)).2.2]
 cases hL:lifeA f c own p day with
 |nil=>exact absurd hL hn
 |cons o L=>
  have h2:=b0Q (s:=s) (day:=day) L [o] (by simp);rw[List.singleton_append,List.length_singleton,show 1+L.length=(o::L).length by simp;omega]at h2
  rw[h2];rfl
theorem c6c {M:List (Option Part)} {i:Nat} {s:ByteArray} {day:Int} (hi:i<M.length) (h:(M.map Option.isSome)[i]'(by rw[List.length_map];exact hi)=true):(a5q ((M.map lgP)[i]'(by rw[List.length_map];exact hi)) s day).1=a8D s day M[i]:=by
 rw[List.getElem_map]at h ⊢
 obtain⟨q,hq⟩:=Option.isSome_iff_exists.1 h;rw[hq];rfl
theorem c6b {M:List (Option Part)} {i:Nat} {s:ByteArray} {day:Int} (hi:i<M.length) (h:(M.map Option.isSome)[i]'(by rw[List.length_map];exact hi)=false):a3n=a8D s day M[i]:=by
 rw[List.getElem_map,Option.isSome_eq_false_iff,Option.isNone_iff_eq_none]at h
 rw[h];rfl
end Go.Sx
namespace Go.Proofs.YtkndpfncklhhlaaGreat
open Go Go.Sx Tryz
set_option linter.all false
set_option maxRecDepth 20000
set_option maxHeartbeats 4000000
instance:Has (a2A prog 4) ([.bool false],1,1):=hk
instance:Has (a9w prog 59) (4,1):=hk
instance:Has (prog.underlying 59) (.slice 4):=hk
theorem c5n (I:IMap) (vc:Value) (c:List Kind) (hvc:RdS I vc c) (hsc:SmC c) (f:Fm) (sf:Value) (hf:FmRd I [ci f.op,ci f.n,sf] f) (v:Value) (l:List Rep) (hv:RdS I v l) (hl:l.length≤25) (hsl:∀r∈l,∀e∈r.options,SmE e) (day:Int) :
    FnV prog 29 #[.agg #[vc,ci f.op,ci f.n,sf],v,.int .i64 (day)] I (.bool (c0M c f l day)):=by
 have hv0:=hv;obtain⟨A,c0,rfl,hA,hc,hm⟩:=hv;refine enter func29 call29 rfl ntmps29 rfl fun w0=>?_;refine go 4 fun g3=>?_
 refine go 10 ?_
 refine a0w (α:=Nat) 0 (fun i=>I)
  (fun i=>[(1,.slice A l.length c0),(2,.int .i64 (day)),(3,.pointer (some ⟨g3,0,none⟩)),(7,.int .i64 ((i:Nat):Int))])
  (fun i=>[.blk g3 29 [vc,ci f.op,ci f.n,sf]])
  (fun i=>i≤l.length∧a2m (fun _ r=>a0l r) l i=true)
  (fun i=>l.length-i) ⟨Nat.zero_le _,rfl⟩ rfl sb rfl ?_
 intro i ⟨hi,hn⟩;refine gC 9 (fun h11 p11=>?_) fun h11 p11=>?_
 ·have hlt:i<l.length:=oM;refine go 8 ?_;obtain⟨b16,o16,w16,e16,c16,r16⟩:=RdA.at_ hA (i:=i) oM;obtain⟨q16,rfl,S16,d16,rfl,hS16,hd16,hm16⟩:=r16;refine go 3 ?_;refine cV (a6w _ l[i] S16 d16 ⟨_,_,rfl,hS16,hd16,hm16⟩ (hsl _ (List.getElem_mem hlt))) ?_;refine gC 3 (fun h19 p19=>?_) fun h19 p19=>?_
  ·refine go 12 ?_;exact q_v (congrArg Value.bool (by unfold c0M;rw[a0R (f:=fun _ r=>a0l r) hlt (by simpa using h19)];rfl))
  ·refine go 9 ?_;exact a0s (i+1) ⟨oM,a0T (f:=fun _ r=>a0l r) hn hlt (by simpa using h19)⟩ oM rfl sb rfl
 ·obtain rfl:i=l.length:=oM;refine go 9 ?_;refine cV (b7o _ vc c hvc hsc f sf hf) ?_;refine gS 1 22 (fun h22 p22=>?_) fun h22 p22=>?_
  ·refine gS 4 26 (fun h26 p26=>?_) fun h26 p26=>?_
   ·refine go 8 ?_;exact q_v (congrArg Value.bool (by simp only[c0M,hn,Bool.true_and,h11,h22,h26,bS]))
   ·refine go 8 ?_;exact q_v (congrArg Value.bool (by simp only[c0M,hn,Bool.true_and,h11,h22,h26,bS]))
  ·refine go 12 ?_;exact q_v (congrArg Value.bool (by simp only[c0M,hn,Bool.true_and,h11,h22,bS]))
theorem b7p (I:IMap) (vc:Value) (c:List Kind) (hvc:RdS I vc c) (hsc:SmC c) (f:Fm) (sf:Value) (hf:FmRd I [ci f.op,ci f.n,sf] f) (v:Value) (l:List Rep) (hv:RdS I v l) (hl:l.length≤25) (hsl:∀r∈l,∀e∈r.options,SmE e) (R:Nat→Nat) (hRt:Rts l R) (p:ByteArray) (day:Int)  :
    FnI prog 15 #[.agg #[vc,ci f.op,ci f.n,sf],v,.string p,.int .i64 (day)] I (fun u J=>∃w b,u = .tuple #[w,b,.int .i64 (bndA f c l (a1e l R p) p day)]∧((bndA f c l (a1e l R p) p day)=0→RdS J w ((lifeA f c (a1e l R p) p day).map lgP)∧RdS J b ((lifeA f c (a1e l R p) p day).map Option.isSome))):=by
 have hv0:=hv;obtain⟨A,c0,rfl,hA,hc,hm⟩:=hv;refine enter func15 call15 rfl ntmps15 rfl fun w0=>?_;refine go 4 fun g4=>?_
 refine go 12 ?_;refine cV (c5n _ vc c hvc hsc f sf hf _ l hv0 hl hsl day) ?_;refine gC 3 (fun h29 p29=>?_) fun h29 p29=>?_
 ·refine go 10 ?_;have e:(a4R f c l (a1e l R p) day)=1:=d1o (by simpa using h29);exact q_i ⟨_,_,by rw[a8j (by rw[e];decide),e]<;>rfl,fun h=>by rw[a8j (by rw[e];decide),e]at h;cases h⟩
 ·obtain⟨hC,hV,hBE⟩:=c8m (own:=(a1e l R p)) (show c0M c f l day=true by simpa using h29);have hcl2:=a6U (l:=l) (R:=R) (p:=p);refine go 8 ?_;refine a0D (c9l _ _ l hv0 oM hsl R hRt p) rfl rfl fun v33 I33 j33 q33=>?_
  try have hvc:=hvc.le j33
  try have hf:=hf.le j33
  try have hv0:=hv0.le j33
  try have hA:=hA.le j33
  try have Ro:=Ro.le j33
  try have hAA:=hAA.le j33
  try have hz63:=hz63.le j33
  try have hwb:=hwb.le j33
  try have hF:=hF.le j33
  try have hB:=hB.le j33
  refine go 1 ?_;refine a0D (b5z _ _ l hv0 _ (ofN l R p) q33 (fun i hi=>b8E hi) (by rw[←a5j (l:=l) fun i hi=>b8E hi];exact Nat.le_trans a6U oM)) rfl rfl fun v34 I34 j34 q34=>?_
  try have hvc:=hvc.le j34
  try have hf:=hf.le j34
  try have hv0:=hv0.le j34
  try have hA:=hA.le j34
  try have Ro:=Ro.le j34
  try have hAA:=hAA.le j34
  try have hz63:=hz63.le j34
  try have hwb:=hwb.le j34
  try have hF:=hF.le j34
  try have hB:=hB.le j34
  have Ro:RdS _ _ (a1e l R p):=q34;have Ros:=Ro;obtain⟨A11,c11,rfl,_,_,_⟩:=Ros;refine gC 11 (fun h37 p37=>?_) fun h37 p37=>?_
  ·refine go 10 ?_;have e:(a4R f c l (a1e l R p) day)=2:=hBE.trans (c6z (own:=(a1e l R p)) hC (b1D.2 hV) (List.eq_nil_of_length_eq_zero oM));exact q_i ⟨_,_,by rw[a8j (by rw[e];decide),e]<;>rfl,fun h=>by rw[a8j (by rw[e];decide),e]at h;cases h⟩
  ·have hne:(a1e l R p)≠[]:=fun e=>by rw[e]at h37;simp at h37
   have hce:=c6A (own:=(a1e l R p)) hC (b1D.2 hV) hne;refine go 5 ?_;refine o_v rfl (a0J ([vc]) m0 he rfl rfl rfl) ?_;refine go 2 ?_;refine a0D (c5x _ vc c hvc hsc _ (a1e l R p) Ro oM (fun r hr=>hsl r (a5Z hr)) 4096) rfl rfl fun v42 I42 j42 q42=>?_
   try have hvc:=hvc.le j42
   try have hf:=hf.le j42
   try have hv0:=hv0.le j42
   try have hA:=hA.le j42
   try have Ro:=Ro.le j42
   try have hAA:=hAA.le j42
   try have hz63:=hz63.le j42
   try have hwb:=hwb.le j42
   try have hF:=hF.le j42
   try have hB:=hB.le j42
   obtain⟨w42,rfl,hw42⟩:=q42;obtain⟨AA,ca,rfl,hAA,hca,hma⟩:=hw42;refine gC 14 (fun h46 p46=>?_) fun h46 p46=>?_
   ·refine go 11 ?_;have e:(a4R f c l (a1e l R p) day)=(a1Y c (a1e l R p) 4096).2:=hBE.trans (hce.trans (if_pos p46));exact q_i ⟨_,_,by rw[a8j (by rw[e];exact p46),e]<;>rfl,fun h=>absurd h (by rw[a8j (by rw[e];exact p46),e];exact p46)⟩
   ·have h00:(a1Y c (a1e l R p) 4096).2=0:=by simpa using h46
    refine gC 10 (fun h50 p50=>?_) fun h50 p50=>?_
    ·refine go 10 ?_;have e:(a4R f c l (a1e l R p) day)=7:=hBE.trans (hce.trans (by rw[if_neg (by simp[h00]),if_pos oM]));exact q_i ⟨_,_,by rw[a8j (by rw[e];decide),e]<;>rfl,fun h=>by rw[a8j (by rw[e];decide),e]at h;cases h⟩
    ·have h0:(a4R f c l (a1e l R p) day)=0:=hBE.trans (hce.trans (by rw[if_neg (by simp[h00]),if_neg oM]));have hal:(a1Y c (a1e l R p) 4096).1.length≤4096:=by have h:=(b0K (c:=c) (l:=(a1e l R p)) (a:=4096) (b:=4096) oM oM (Int.le_refl _)).2.2.1;omega
     refine go 4 ?_;refine a0G 54 14 ?_;refine go 5 ?_;refine a0G 4 1 ?_;refine go 15 ?_
     refine c7F ((0:Nat)) (_) ([]) (_) ([]) (false) (_) (fun i v14 xs v15 ys b J=>J)
      (fun i v14 xs v15 ys b J=>[(2,.string p),(3,.int .i64 (day)),(4,.pointer (some ⟨g4,0,none⟩)),(11,.slice A11 (a1e l R p).length c11),(12,.slice AA (a1Y c (a1e l R p) 4096).1.length ca),(14,v14),(15,v15),(16,.bool b),(17,.int .i64 ((i:Nat):Int))])
      (fun i v14 xs v15 ys b J=>[.row v15 4 1 i ys,.row v14 54 14 i xs,.blk g4 29 [vc,ci f.op,ci f.n,sf]])
      (fun i v14 xs v15 ys b J=>i≤(a1Y c (a1e l R p) 4096).1.length∧ILe I42 J∧Flat J xs ((((a1Y c (a1e l R p) 4096).1.take i).map (lifeG f c (a1e l R p) p day)).map lgP)∧Flat J ys ((((a1Y c (a1e l R p) 4096).1.take i).map (lifeG f c (a1e l R p) p day)).map Option.isSome)∧b=(((a1Y c (a1e l R p) 4096).1.take i).map (lifeG f c (a1e l R p) p day)).any Option.isSome)
      (fun i v14 xs v15 ys b J=>(a1Y c (a1e l R p) 4096).1.length-i) ⟨Nat.zero_le _,ILe.refl _,.nil,.nil,rfl⟩ rfl sb rfl ?_
     intro i v14 xs v15 ys b J ⟨hi,hJ,hF,hB,hb⟩;have hvc:=hvc.le hJ;have hf:=hf.le hJ;have Ro:=Ro.le hJ;have hAA:=hAA.le hJ;refine gC 9 (fun h54 p54=>?_) fun h54 p54=>?_
     ·have hlt:i<(a1Y c (a1e l R p) 4096).1.length:=oM;have hpl:=a9Y (a1e l R p) (a1Y c (a1e l R p) 4096).1[i];refine go 9 ?_;obtain⟨b61,o61,w61,e61,c61,r61⟩:=RdA.at_ hAA (i:=i) oM;obtain⟨q61,rfl,S61,d61,rfl,hS61,hd61,hm61⟩:=r61;refine go 3 ?_;refine a0D (b0e _ _ (a1e l R p) Ro oM (fun r hr=>hsl r (a5Z hr)) _ (a1Y c (a1e l R p) 4096).1[i] ⟨_,_,rfl,hS61,hd61,hm61⟩) rfl rfl fun v63 I63 j63 q63=>?_
      try have hvc:=hvc.le j63
      try have hf:=hf.le j63
      try have hv0:=hv0.le j63
      try have hA:=hA.le j63
      try have Ro:=Ro.le j63
      try have hAA:=hAA.le j63
      try have hz63:=hz63.le j63
      try have hwb:=hwb.le j63
      try have hF:=hF.le j63
      try have hB:=hB.le j63
      obtain⟨z63,rfl,hz63⟩:=q63;refine go 13 ?_;refine a0D (d2t _ vc c hvc hsc f sf hf _ (a1j (a1e l R p) (a1Y c (a1e l R p) 4096).1[i]).1 hz63 oM (a9Z (fun r hr=>hsl r (a5Z hr))) day) rfl rfl fun v70 I70 j70 q70=>?_
      try have hvc:=hvc.le j70
      try have hf:=hf.le j70
      try have hv0:=hv0.le j70
      try have hA:=hA.le j70
      try have Ro:=Ro.le j70
      try have hAA:=hAA.le j70
      try have hz63:=hz63.le j70
      try have hwb:=hwb.le j70
      try have hF:=hF.le j70
      try have hB:=hB.le j70
      obtain⟨wb,rfl,hwb⟩:=q70;refine go 6 fun g20=>?_
      refine go 1 ?_;refine a1A _ he rfl rfl rfl rfl rfl (by simp[RdS.one hwb]) ?_;refine go 9 ?_;refine a2p (c2j _ _ _ hwb p) rfl rfl fun v77 q77=>?_;obtain⟨vs77,rfl,s77,rfl,hs77⟩:=q77;refine go 5 fun g23=>?_
      refine go 1 ?_;refine a1A _ he rfl rfl rfl rfl rfl (Enc.one (α:=Part) (x:=(a0C (runL f c (a1j (a1e l R p) (a1Y c (a1e l R p) 4096).1[i]).1 day).1 p).getD zPart) ⟨s77,rfl,hs77⟩) ?_;refine go 9 fun v82=>?_
      refine go 1 ?_;refine a0A ?_;refine a0o he he rfl rfl (Enc.one (α:=Part) (x:=(a0C (runL f c (a1j (a1e l R p) (a1Y c (a1e l R p) 4096).1[i]).1 day).1 p).getD zPart) ⟨s77,rfl,hs77⟩) rfl rfl oM oM rfl fun v83=>?_;refine go 9 fun v86=>?_
      refine go 1 ?_;refine a5P ?_;refine a0o he he rfl rfl rfl rfl rfl oM oM rfl fun v87=>?_;refine gS 6 89 (fun h89 p89=>?_) fun h89 p89=>?_
      ·refine go 12 ?_;refine a0b ?_;refine a0a ?_;refine a0c ?_;refine a0a ?_;refine a0c ?_;refine a0a ?_;refine a0c ?_;refine a0a ?_;exact c2h (i+1) (_) (_) (_) (_) (true) (_) ⟨oM,hJ.trans (j63.trans j70),by rw[a4o hlt,List.map_append];exact hF.append (.one ⟨s77,rfl,hs77⟩),by rw[a4o hlt,List.map_append];exact hB.append (.one rfl),by rw[a4o hlt,List.any_append,←hb];first|(simp[h89];done)|(simp[h89];rfl)⟩ oM rfl sb rfl
      ·refine go 12 ?_;refine a0b ?_;refine a0a ?_;refine a0c ?_;refine a0a ?_;refine a0c ?_;refine a0a ?_;refine a0c ?_;refine a0a ?_;exact c2h (i+1) (_) (_) (_) (_) ((a0C (runL f c (a1j (a1e l R p) (a1Y c (a1e l R p) 4096).1[i]).1 day).1 p).isSome) (_) ⟨oM,hJ.trans (j63.trans j70),by rw[a4o hlt,List.map_append];exact hF.append (.one ⟨s77,rfl,hs77⟩),by rw[a4o hlt,List.map_append];exact hB.append (.one rfl),by rw[a4o hlt,List.any_append,←hb];first|(simp[h89];done)|(simp[h89];rfl)⟩ oM rfl sb rfl
     ·obtain rfl:i=(a1Y c (a1e l R p) 4096).1.length:=oM;rw[List.take_length,a5W]at hF hB hb
      refine gC 12 (fun h93 p93=>?_) fun h93 p93=>?_
      ·refine go 10 ?_;have e:=d0J h0 (show (lifeA f c (a1e l R p) p day).any Option.isSome=false by rw[←hb];simpa using h93);exact q_i ⟨_,_,by rw[e]<;>rfl,fun h=>by rw[e]at h;cases h⟩
      ·refine go 4 ?_;refine a0b ?_;refine a0d (l:=((lifeA f c (a1e l R p) p day).map lgP)) rfl (by rw[List.length_map,←a5W,List.length_map]) (hF) fun I94 j94 R94=>?_
       try have hvc:=hvc.le j94
       try have hf:=hf.le j94
       try have hv0:=hv0.le j94
       try have hA:=hA.le j94
       try have Ro:=Ro.le j94
       try have hAA:=hAA.le j94
       try have hz63:=hz63.le j94
       try have hwb:=hwb.le j94
       try have hF:=hF.le j94
       try have hB:=hB.le j94
       refine go 1 ?_;refine a0d (l:=((lifeA f c (a1e l R p) p day).map Option.isSome)) rfl (by rw[List.length_map,←a5W,List.length_map]) (hB) fun I95 j95 R95=>?_;have R94:=R94.le j95;refine go 8 ?_;have e:=d0I h0 (show (lifeA f c (a1e l R p) p day).any Option.isSome=true by rw[←hb];simpa using h93);exact q_i ⟨_,_,by rw[e]<;>rfl,fun _=>⟨R94,R95⟩⟩
theorem c9j (I:IMap) (vc:Value) (c:List Kind) (hvc:RdS I vc c) (hsc:SmC c) (f:Fm) (sf:Value) (hf:FmRd I [ci f.op,ci f.n,sf] f) (v:Value) (l:List Rep) (hv:RdS I v l) (hl:l.length≤25) (hsl:∀r∈l,∀e∈r.options,SmE e) (R:Nat→Nat) (hRt:Rts l R) (p:ByteArray) (day:Int)  :
    FnI prog 7 #[.agg #[vc,ci f.op,ci f.n,sf],v,.string p,.int .i64 (day)] I (fun u J=>u = .tuple #[.agg (bndLife f c l (a1e l R p) p day).1.cells.toArray,.int .i64 (bndLife f c l (a1e l R p) p day).2]):=by
 refine enter func7 call7 rfl ntmps7 rfl fun w0=>?_;refine go 4 fun g4=>?_
 refine go 2 fun g8=>?_
 refine go 10 ?_;refine a0D (b7p _ vc c hvc hsc f sf hf v l hv hl hsl R hRt p day) rfl rfl fun v21 I21 j21 q21=>?_
 try have hvc:=hvc.le j21
 try have hf:=hf.le j21
 try have hv:=hv.le j21
 obtain⟨w,b,rfl,hwb⟩:=q21;refine gC 16 (fun h26 p26=>?_) fun h26 p26=>?_
 ·refine go 12 ?_;have e1:(bndLife f c l (a1e l R p) p day).2=(bndA f c l (a1e l R p) p day):=bndA_is (g:=kmO);have e2:=c0X (f:=f) (c:=c) (l:=l) (own:=(a1e l R p)) (p:=p) (day:=day) (by rw[e1];exact p26);exact q_i (by rw[e1,e2]<;>rfl)
 ·have h0:(bndA f c l (a1e l R p) p day)=0:=by simpa using h26
  obtain⟨rw,rb⟩:=hwb h0;obtain⟨M,hM⟩:∃q,q=((lifeA f c (a1e l R p) p day).map lgP):=⟨_,rfl⟩;rw[←hM]at rw
  have hpos:0<M.length:=by rw[hM,List.length_map];exact List.length_pos_iff.2 (b1G h0)
  have hall:=b8m h0;rw[←hM]at hall
  obtain⟨A10,c10,rfl,hA10,_,hm10⟩:=rw;have h1l:a8p M 1=M[0].life:=b8n hpos;refine go 5 ?_;obtain⟨b30,o30,w30,e30,c30,r30⟩:=RdA.at_ hA10 (i:=0) hpos;obtain⟨q30,rfl,B30,d30,rfl,hB30,hd30,hm30⟩:=r30;refine o_v rfl (a0i he rfl rfl e30 (0) oM hpos) ?_;refine go 1 ?_;refine o_v rfl (a2P he rfl (c30.sub 8 6) rfl) ?_;refine go 2 fun g13=>?_
  refine go 11 ?_;refine a0c ?_;refine a0a ?_
  refine a1i (1) (M[0].life) (fun i z=>I21)
   (fun i z=>[(8,.pointer (some ⟨g8,0,none⟩)),(10,.slice A10 M.length c10),(13,.pointer (some ⟨g13,0,none⟩)),(14,.int .i64 ((i:Nat):Int))])
   (fun i z=>[.blk g13 36 z.cells,.blk g8 36 [.int .i64 0,.int .i64 0,.int .i64 0,.int .i64 0,.int .i64 0,.int .i64 0]])
   (fun i z=>1≤i∧i≤M.length∧a8p M i=z)
   (fun i z=>M.length-i) ⟨Nat.le_refl _,hpos,h1l⟩ rfl sb rfl ?_
  intro i z ⟨hi1,hi,hz⟩;refine gC 9 (fun h36 p36=>?_) fun h36 p36=>?_
  ·have hlt:i<M.length:=oM;refine go 8 ?_;obtain⟨b41,o41,w41,e41,c41,r41⟩:=RdA.at_ hA10 (i:=i) hlt;obtain⟨q41,rfl,B41,d41,rfl,hB41,hd41,hm41⟩:=r41;refine go 2 ?_;refine o_v rfl (a2P he rfl (c41.sub 8 6) rfl) ?_;refine go 2 fun g15=>?_
   refine go 4 ?_;refine a0b ?_;refine ds1 ?_;refine dG 0 1 ?_;refine dG 2 1 ?_;refine a0F 3 rfl rfl (by kernel_rfl) rfl (.cons _ (.refl _)) rfl (a0J (M[i].life.km.cells) m0 he rfl rfl rfl) ?_;refine dG 5 1 ?_;refine dG 7 1 ?_;refine a0F 8 rfl rfl (by kernel_rfl) rfl (.cons _ (.refl _)) rfl (a0J (M[i].life.cycles.cells) m0 he rfl rfl rfl) ?_;refine dG 10 1 ?_;refine dG 12 1 ?_;refine a0F 13 rfl rfl (by kernel_rfl) rfl (.cons _ (.refl _)) rfl (a0J (M[i].life.damage.cells) m0 he rfl rfl rfl) ?_;refine dT3 1 6 11 ?_ ?_ ?_
   ·refine a0k rfl (a0J (z.km.cells) m0 he rfl rfl rfl) ?_;refine go 1 ?_;refine dT3 4 6 11 ?_ ?_ ?_
    ·refine cV (a0E _ z.km M[i].life.km) ?_;refine go 1 ?_;refine dT2 6 11 ?_ ?_
     ·refine a0k rfl (a0J (z.cycles.cells) m0 he rfl rfl rfl) ?_;refine go 1 ?_;refine dT2 9 11 ?_ ?_
      ·refine cV (a0E _ z.cycles M[i].life.cycles) ?_;refine dH 11 0 ?_;refine a0k rfl (a0J (z.damage.cells) m0 he rfl rfl rfl) ?_;refine dH 14 0 ?_;refine cV (a0E _ z.damage M[i].life.damage) ?_;refine dH 15 1 ?_;refine go 11 ?_;refine a0b ?_;refine a0a ?_;exact a0t (i+1) (a5L z M[i].life) ⟨oM,oM,by rw[a1o hi1 hlt,hz]⟩ oM rfl sb rfl
      ·refine a0k rfl (a0J (z.damage.cells) m0 he rfl rfl rfl) ?_;refine dH 9 0 ?_;refine cV (a0E _ z.cycles M[i].life.cycles) ?_;refine dH 14 0 ?_;refine cV (a0E _ z.damage M[i].life.damage) ?_;refine dH 15 1 ?_;refine go 11 ?_;refine a0b ?_;refine a0a ?_;exact a0t (i+1) (a5L z M[i].life) ⟨oM,oM,by rw[a1o hi1 hlt,hz]⟩ oM rfl sb rfl
     ·refine a0k rfl (a0J (z.damage.cells) m0 he rfl rfl rfl) ?_;refine dH 6 0 ?_;refine a0k rfl (a0J (z.cycles.cells) m0 he rfl rfl rfl) ?_;refine dH 9 0 ?_;refine cV (a0E _ z.cycles M[i].life.cycles) ?_;refine dH 14 0 ?_;refine cV (a0E _ z.damage M[i].life.damage) ?_;refine dH 15 1 ?_;refine go 11 ?_;refine a0b ?_;refine a0a ?_;exact a0t (i+1) (a5L z M[i].life) ⟨oM,oM,by rw[a1o hi1 hlt,hz]⟩ oM rfl sb rfl
    ·refine a0k rfl (a0J (z.cycles.cells) m0 he rfl rfl rfl) ?_;refine go 1 ?_;refine dT2 4 11 ?_ ?_
     ·refine cV (a0E _ z.km M[i].life.km) ?_;refine go 1 ?_;refine dT2 9 11 ?_ ?_
      ·refine cV (a0E _ z.cycles M[i].life.cycles) ?_;refine dH 11 0 ?_;refine a0k rfl (a0J (z.damage.cells) m0 he rfl rfl rfl) ?_;refine dH 14 0 ?_;refine cV (a0E _ z.damage M[i].life.damage) ?_;refine dH 15 1 ?_;refine go 11 ?_;refine a0b ?_;refine a0a ?_;exact a0t (i+1) (a5L z M[i].life) ⟨oM,oM,by rw[a1o hi1 hlt,hz]⟩ oM rfl sb rfl
      ·refine a0k rfl (a0J (z.damage.cells) m0 he rfl rfl rfl) ?_;refine dH 9 0 ?_;refine cV (a0E _ z.cycles M[i].life.cycles) ?_;refine dH 14 0 ?_;refine cV (a0E _ z.damage M[i].life.damage) ?_;refine dH 15 1 ?_;refine go 11 ?_;refine a0b ?_;refine a0a ?_;exact a0t (i+1) (a5L z M[i].life) ⟨oM,oM,by rw[a1o hi1 hlt,hz]⟩ oM rfl sb rfl
     ·refine a0k rfl (a0J (z.damage.cells) m0 he rfl rfl rfl) ?_;refine dH 4 0 ?_;refine cV (a0E _ z.km M[i].life.km) ?_;refine dH 9 0 ?_;refine cV (a0E _ z.cycles M[i].life.cycles) ?_;refine dH 14 0 ?_;refine cV (a0E _ z.damage M[i].life.damage) ?_;refine dH 15 1 ?_;refine go 11 ?_;refine a0b ?_;refine a0a ?_;exact a0t (i+1) (a5L z M[i].life) ⟨oM,oM,by rw[a1o hi1 hlt,hz]⟩ oM rfl sb rfl
    ·refine a0k rfl (a0J (z.damage.cells) m0 he rfl rfl rfl) ?_;refine go 1 ?_;refine dT2 4 6 ?_ ?_
     ·refine cV (a0E _ z.km M[i].life.km) ?_;refine dH 6 0 ?_;refine a0k rfl (a0J (z.cycles.cells) m0 he rfl rfl rfl) ?_;refine dH 9 0 ?_;refine cV (a0E _ z.cycles M[i].life.cycles) ?_;refine dH 14 0 ?_;refine cV (a0E _ z.damage M[i].life.damage) ?_;refine dH 15 1 ?_;refine go 11 ?_;refine a0b ?_;refine a0a ?_;exact a0t (i+1) (a5L z M[i].life) ⟨oM,oM,by rw[a1o hi1 hlt,hz]⟩ oM rfl sb rfl
     ·refine a0k rfl (a0J (z.cycles.cells) m0 he rfl rfl rfl) ?_;refine dH 4 0 ?_;refine cV (a0E _ z.km M[i].life.km) ?_;refine dH 9 0 ?_;refine cV (a0E _ z.cycles M[i].life.cycles) ?_;refine dH 14 0 ?_;refine cV (a0E _ z.damage M[i].life.damage) ?_;refine dH 15 1 ?_;refine go 11 ?_;refine a0b ?_;refine a0a ?_;exact a0t (i+1) (a5L z M[i].life) ⟨oM,oM,by rw[a1o hi1 hlt,hz]⟩ oM rfl sb rfl
   ·refine a0k rfl (a0J (z.cycles.cells) m0 he rfl rfl rfl) ?_;refine go 1 ?_;refine dT2 1 11 ?_ ?_
    ·refine a0k rfl (a0J (z.km.cells) m0 he rfl rfl rfl) ?_;refine go 1 ?_;refine dT2 4 11 ?_ ?_
     ·refine cV (a0E _ z.km M[i].life.km) ?_;refine go 1 ?_;refine dT2 9 11 ?_ ?_
      ·refine cV (a0E _ z.cycles M[i].life.cycles) ?_;refine dH 11 0 ?_;refine a0k rfl (a0J (z.damage.cells) m0 he rfl rfl rfl) ?_;refine dH 14 0 ?_;refine cV (a0E _ z.damage M[i].life.damage) ?_;refine dH 15 1 ?_;refine go 11 ?_;refine a0b ?_;refine a0a ?_;exact a0t (i+1) (a5L z M[i].life) ⟨oM,oM,by rw[a1o hi1 hlt,hz]⟩ oM rfl sb rfl
      ·refine a0k rfl (a0J (z.damage.cells) m0 he rfl rfl rfl) ?_;refine dH 9 0 ?_;refine cV (a0E _ z.cycles M[i].life.cycles) ?_;refine dH 14 0 ?_;refine cV (a0E _ z.damage M[i].life.damage) ?_;refine dH 15 1 ?_;refine go 11 ?_;refine a0b ?_;refine a0a ?_;exact a0t (i+1) (a5L z M[i].life) ⟨oM,oM,by rw[a1o hi1 hlt,hz]⟩ oM rfl sb rfl
     ·refine a0k rfl (a0J (z.damage.cells) m0 he rfl rfl rfl) ?_;refine dH 4 0 ?_;refine cV (a0E _ z.km M[i].life.km) ?_;refine dH 9 0 ?_;refine cV (a0E _ z.cycles M[i].life.cycles) ?_;refine dH 14 0 ?_;refine cV (a0E _ z.damage M[i].life.damage) ?_;refine dH 15 1 ?_;refine go 11 ?_;refine a0b ?_;refine a0a ?_;exact a0t (i+1) (a5L z M[i].life) ⟨oM,oM,by rw[a1o hi1 hlt,hz]⟩ oM rfl sb rfl
    ·refine a0k rfl (a0J (z.damage.cells) m0 he rfl rfl rfl) ?_;refine dH 1 0 ?_;refine a0k rfl (a0J (z.km.cells) m0 he rfl rfl rfl) ?_;refine dH 4 0 ?_;refine cV (a0E _ z.km M[i].life.km) ?_;refine dH 9 0 ?_;refine cV (a0E _ z.cycles M[i].life.cycles) ?_;refine dH 14 0 ?_;refine cV (a0E _ z.damage M[i].life.damage) ?_;refine dH 15 1 ?_;refine go 11 ?_;refine a0b ?_;refine a0a ?_;exact a0t (i+1) (a5L z M[i].life) ⟨oM,oM,by rw[a1o hi1 hlt,hz]⟩ oM rfl sb rfl
   ·refine a0k rfl (a0J (z.damage.cells) m0 he rfl rfl rfl) ?_;refine go 1 ?_;refine dT2 1 6 ?_ ?_
    ·refine a0k rfl (a0J (z.km.cells) m0 he rfl rfl rfl) ?_;refine go 1 ?_;refine dT2 4 6 ?_ ?_
     ·refine cV (a0E _ z.km M[i].life.km) ?_;refine dH 6 0 ?_;refine a0k rfl (a0J (z.cycles.cells) m0 he rfl rfl rfl) ?_;refine dH 9 0 ?_;refine cV (a0E _ z.cycles M[i].life.cycles) ?_;refine dH 14 0 ?_;refine cV (a0E _ z.damage M[i].life.damage) ?_;refine dH 15 1 ?_;refine go 11 ?_;refine a0b ?_;refine a0a ?_;exact a0t (i+1) (a5L z M[i].life) ⟨oM,oM,by rw[a1o hi1 hlt,hz]⟩ oM rfl sb rfl
     ·refine a0k rfl (a0J (z.cycles.cells) m0 he rfl rfl rfl) ?_;refine dH 4 0 ?_;refine cV (a0E _ z.km M[i].life.km) ?_;refine dH 9 0 ?_;refine cV (a0E _ z.cycles M[i].life.cycles) ?_;refine dH 14 0 ?_;refine cV (a0E _ z.damage M[i].life.damage) ?_;refine dH 15 1 ?_;refine go 11 ?_;refine a0b ?_;refine a0a ?_;exact a0t (i+1) (a5L z M[i].life) ⟨oM,oM,by rw[a1o hi1 hlt,hz]⟩ oM rfl sb rfl
    ·refine a0k rfl (a0J (z.cycles.cells) m0 he rfl rfl rfl) ?_;refine dH 1 0 ?_;refine a0k rfl (a0J (z.km.cells) m0 he rfl rfl rfl) ?_;refine dH 4 0 ?_;refine cV (a0E _ z.km M[i].life.km) ?_;refine dH 9 0 ?_;refine cV (a0E _ z.cycles M[i].life.cycles) ?_;refine dH 14 0 ?_;refine cV (a0E _ z.damage M[i].life.damage) ?_;refine dH 15 1 ?_;refine go 11 ?_;refine a0b ?_;refine a0a ?_;exact a0t (i+1) (a5L z M[i].life) ⟨oM,oM,by rw[a1o hi1 hlt,hz]⟩ oM rfl sb rfl
  ·obtain rfl:i=M.length:=oM;refine go 9 ?_;refine a0b ?_;refine go 6 ?_;have e1:(bndLife f c l (a1e l R p) p day).2=(bndA f c l (a1e l R p) p day):=bndA_is (g:=kmO);exact q_i (by rw[e1,h0,←hall,hz]<;>rfl)
theorem c5m (I:IMap) (vc:Value) (c:List Kind) (hvc:RdS I vc c) (hsc:SmC c) (f:Fm) (sf:Value) (hf:FmRd I [ci f.op,ci f.n,sf] f) (v:Value) (l:List Rep) (hv:RdS I v l) (hl:l.length≤25) (hsl:∀r∈l,∀e∈r.options,SmE e) (R:Nat→Nat) (hRt:Rts l R) (p:ByteArray) (s:ByteArray) (day:Int)  :
    FnI prog 9 #[.agg #[vc,ci f.op,ci f.n,sf],v,.string p,.string s,.int .i64 (day)] I (fun u J=>u = .tuple #[.agg (bndVal s f c l (a1e l R p) p day).1.cells.toArray,.int .i64 (bndVal s f c l (a1e l R p) p day).2]):=by
 refine enter func9 call9 rfl ntmps9 rfl fun w0=>?_;refine go 4 fun g5=>?_
 refine go 2 fun g10=>?_
 refine go 8 ?_;refine cV (d2s _ s) ?_;refine gC 3 (fun h20 p20=>?_) fun h20 p20=>?_
 ·refine go 11 ?_;have e:(bndVal s f c l (a1e l R p) p day)=(a3n,15):=if_pos (by simpa using h20);exact q_i (by rw[e]<;>rfl)
 ·have hcu:a5x s=true:=by simpa using h20
  have hBV:(bndVal s f c l (a1e l R p) p day)=bndF (a8D s day) f c l (a1e l R p) p day:=if_neg (by rw[hcu];decide);have e1:=bndA_is (f:=f) (c:=c) (l:=l) (own:=(a1e l R p)) (p:=p) (day:=day) (g:=a8D s day);refine go 9 ?_;refine a0D (b7p _ vc c hvc hsc f sf hf v l hv hl hsl R hRt p day) rfl rfl fun v27 I27 j27 q27=>?_
  try have hvc:=hvc.le j27
  try have hf:=hf.le j27
  try have hv:=hv.le j27
  obtain⟨w,b,rfl,hwb⟩:=q27;refine gC 16 (fun h32 p32=>?_) fun h32 p32=>?_
  ·refine go 12 ?_;exact q_i (by rw[hBV,e1,a9m (g:=a8D s day) (by rw[e1];exact p32)]<;>rfl)
  ·have h0:(bndA f c l (a1e l R p) p day)=0:=by simpa using h32
   obtain⟨rw,rb⟩:=hwb h0;obtain⟨M,hM⟩:∃q,q=(lifeA f c (a1e l R p) p day):=⟨_,rfl⟩;have hall:=c0H (s:=s) h0;rw[←hM]at rw rb hall
   obtain⟨A12,c12,rfl,hA12,hc12,hm12⟩:=rw;obtain⟨A13,c13,rfl,hA13,_,_⟩:=rb;rw[List.length_map]at hc12 ⊢
   refine go 6 fun g15=>?_
   refine go 9 ?_;refine a0c ?_;refine a0a ?_
   refine a0w (α:=Nat) 0 (fun i=>I27)
    (fun i=>[(3,.string s),(4,.int .i64 (day)),(10,.pointer (some ⟨g10,0,none⟩)),(12,.slice A12 M.length c12),(13,.slice A13 (M.map Option.isSome).length c13),(15,.pointer (some ⟨g15,0,none⟩)),(16,.int .i64 ((i:Nat):Int))])
    (fun i=>[.blk g15 34 (b0A M s day i).cells,.blk g10 34 [.int .i64 0,.int .i64 0]])
    (fun i=>i≤M.length)
    (fun i=>M.length-i) (Nat.zero_le _) rfl sb rfl ?_
   intro i hi;refine gC 9 (fun h38 p38=>?_) fun h38 p38=>?_
   ·have hlt:i<M.length:=oM;have hgd:M.getD i none=M[i]:=by rw[List.getD_eq_getElem?_getD,List.getElem?_eq_getElem hlt];rfl
    have hlm:i<(M.map lgP).length:=by rw[List.length_map];exact hlt
    refine go 8 fun g17=>?_
    refine go 3 ?_;refine a3O (α:=Ivl) (Ix:=(fun y=>I27)) (Lx:=(fun y=>[(3,.string s),(4,.int .i64 (day)),(10,.pointer (some ⟨g10,0,none⟩)),(12,.slice A12 M.length c12),(13,.slice A13 (M.map Option.isSome).length c13),(15,.pointer (some ⟨g15,0,none⟩)),(16,.int .i64 ((i:Nat):Int)),(17,.pointer (some ⟨g17,0,none⟩))])) (Hx:=(fun y=>[.blk g17 34 y.cells,.blk g15 34 (b0A M s day i).cells,.blk g10 34 [.int .i64 0,.int .i64 0]])) (p:=(fun y=>y=a8D s day (M.getD i none))) ?_ ?_
    ·refine go 4 ?_;obtain⟨b43,o43,w43,e43,c43,r43⟩:=RdA.at_ hA13 (i:=i) (by first|exact hlt|(rw[List.length_map];exact hlt));obtain rfl:=r43;refine o_v rfl (a0i he rfl rfl e43 (i) oM (by first|exact hlt|(rw[List.length_map];exact hlt))) ?_;refine gC 3 (fun h44 p44=>?_) fun h44 p44=>?_
     ·refine go 3 ?_;obtain⟨b48,o48,w48,e48,c48,r48⟩:=RdA.at_ hA12 (i:=i) (by first|exact hlm|exact hlt);obtain⟨q48,rfl,B48,d48,rfl,hB48,hd48,hm48⟩:=r48;refine o_v rfl (a0i he rfl rfl e48 (i) oM (by first|exact hlm|exact hlt)) ?_;refine go 4 ?_;refine cV (c5l _ ((M.map lgP)[i]'hlm) _ rfl s day) ?_;refine go 7 ?_;exact a1s (a5q ((M.map lgP)[i]'hlm) s day).1 (by rw[hgd];exact c6c hlt h44) sb rfl rfl
     ·refine go 2 ?_;exact a1s a3n (by rw[hgd];exact c6b hlt h44) sb rfl rfl
    ·intro y hy;subst hy;refine gC 7 (fun h56 p56=>?_) fun h56 p56=>?_
     ·refine go 4 ?_;refine cV (a0E _ (b0A M s day i) (a8D s day (M.getD i none))) ?_;refine go 7 ?_;refine a0b ?_;refine go 10 ?_;refine a0b ?_;refine a0a ?_;exact a0s (i+1) oM oM rfl sb (by rw[b0A,if_neg oM])
     ·refine go 5 ?_;refine a0b ?_;refine go 10 ?_;refine a0b ?_;refine a0a ?_;exact a0s (i+1) oM oM rfl sb (by rw[b0A,if_pos oM])
   ·refine go 9 ?_;refine a0b ?_;refine go 6 ?_;obtain rfl:i=M.length:=oM;exact q_i (by rw[hBV,e1,h0,←hall]<;>rfl)
end Go.Proofs.YtkndpfncklhhlaaGreat
set_option linter.all false
namespace Go.Sx
open Go
def d4p (r:Rep):Prop:=∀e∈r.options,OkE e
section
variable {P:Program} {t:TypeId}
theorem c1T {tb tk:TypeId} (hf:a1I P t=some [(tk,0,1),(tb,1,1)]) (hc:P.cellsOf t=2) (hk:a2U P tk (List Evt) (fun l=>∀x∈l,OkE x)) (hb:a2U P tb Bool (fun _=>True)):a2U P t Rep d4p:=by
 intro H enc w base spare held fuel cs x h;obtain⟨hl,hall⟩:=a2J hf h;rw[hc]at hl
 obtain⟨a0,r0_,rfl,l0_⟩:=a0I hl;obtain⟨a1,r1_,rfl,l1_⟩:=a0I l0_;obtain rfl:=a5V l1_;obtain⟨n0,y0,h0⟩:=hall (tk,0,1) (by simp);obtain⟨x0,e0,g0⟩:=hk enc w base spare held n0 _ y0 h0;obtain⟨v0,e0,r0⟩:=e0;have e0:[a0]=[v0]:=e0
 cases e0
 obtain⟨n1,y1,h1⟩:=hall (tb,1,1) (by simp);obtain⟨x1,e1,g1⟩:=hb enc w base spare held n1 _ y1 h1;have e1:[a1]=[.bool x1]:=e1
 cases e1
 exact⟨⟨x0,x1⟩,⟨_,rfl,r0⟩,g0⟩
end
end Go.Sx
