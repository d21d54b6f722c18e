
import Derived.Test.YtdapmfkbpnjkmaaGreatZPmd
import Derived.Laws.Bits64b
import Derived.Lib.Mul64
import Derived.Maps.RangeRun
set_option linter.all false
namespace Go.Sx
open Go
def c1I (l:List Rep):Nat:=(l.filter fun r=>decide (1<chs r)).length
def a7A (c:List Kind) (l:List Rep):Int:=if a1g c=false then 1 else if l.any (fun r=>decide (chs r=0))=true then 1 else if (30:Int)<(c1I l:Nat) then 7 else 0
def a2m (c:List Kind) (l:List Rep) (most:Int):List (List Int)×Int:=
 if (decide (most<1)||decide (4096<most))=true then ([],1) else if a7A c l≠0 then ([],a7A c l) else if (a3d c l).take most.toNat=[] then ([],21) else ((a3d c l).take most.toNat,0)
theorem b5q {c:List Kind} {l:List Rep} (h:a7A c l=0):a1g c=true∧∀r∈l,chs r≠0:=by
 unfold a7A at h
 split at h
 ·cases h
 ·rename_i hc
  split at h
  ·cases h
  ·rename_i ha
   exact⟨by simpa using hc,fun r hr h0=>ha (List.any_eq_true.2 ⟨r,hr,by simp[h0]⟩)⟩
theorem b8k {c:List Kind} {l:List Rep} (hc:a1g c=true) (hp:∀r∈l,chs r≠0) (t:List Int):a1E c l t 0=true↔t∈a2b l:=by
 rw[a5w]
 constructor
 ·intro h;exact⟨(a2g h).1,fun i h1 h2=>by have:=a5Z h h1 h2;omega⟩
 ·rintro⟨h1,h2⟩;exact a6X hc h1 fun i h3 h4=>⟨hp _ (List.getElem_mem h3),h2 i h3 h4⟩
theorem b5H {c:List Kind} {l:List Rep} {t:List Int} (h:isF c l t=true):a1E c l t 0=true:=by
 cases hg:a1E c l t 0 with
 |true=>rfl
 |false=>rw[c8B hg]at h;cases h
theorem b5u {c:List Kind} {l:List Rep} (t:List Int):t∈a3d c l↔isF c l t=true:=by
 rw[a3d,List.mem_filter]
 constructor
 ·exact fun h=>h.2
 ·intro h
  have hg:=b5H h
  refine⟨?_,h⟩
  exact (b8k (a6W hg) (fun r hr h0=>by
   obtain⟨i,hi,rfl⟩:=List.getElem_of_mem hr
   exact (a5Z hg hi (by have:=(a2g hg).1;omega)).1 h0) t).1 hg
def a9X:List Rep→Nat
 | []=>1
 |r::l=>(chs r).toNat * a9X l
theorem b3S:∀l:List Rep,(a2b l).length=a9X l
 | []=>rfl
 |r::l=>by
  rw[a2b,List.length_flatMap,a9X]
  simp only[List.length_map,b3S l]
  rw[List.map_const',List.sum_replicate_nat,List.length_range]
theorem c4w {c:List Kind} {l:List Rep} {most:Int} (h1:1≤most) (h2:most≤4096) (he:a7A c l=0):a2m c l most=if (a3d c l).take most.toNat=[] then ([],21) else ((a3d c l).take most.toNat,0):=by
 unfold a2m;rw[if_neg (by simp;omega),if_neg (by simp[he])]
theorem c5r {c:List Kind} {l:List Rep} {most:Int} (h1:1≤most) (h2:most≤4096) (he:a7A c l≠0):a2m c l most=([],a7A c l):=by
 unfold a2m;rw[if_neg (by simp;omega),if_pos he]
theorem b1h {c:List Kind} {l:List Rep} {most:Int} (h1:1≤most) (h2:most≤4096):(a2m c l most).2=if a7A c l≠0 then a7A c l else if a3d c l=[] then 21 else 0:=by
 by_cases he:a7A c l=0
 ·rw[c4w h1 h2 he,if_neg (show ¬(a7A c l≠0) by simp[he])]
  have:(a3d c l).take most.toNat=[]↔a3d c l=[]:=by
   rw[List.take_eq_nil_iff]
   constructor
   ·rintro (h|h)
    ·omega
    ·exact h
   ·exact .inr
  by_cases hh:a3d c l=[]
  ·rw[if_pos (this.2 hh),if_pos hh]
  ·rw[if_neg (fun h=>hh (this.1 h)),if_neg hh]
 ·rw[c5r h1 h2 he,if_pos he]
theorem c1Q {c:List Kind} {l:List Rep} {most:Int} (h1:1≤most) (h2:most≤4096) (he:a7A c l=0):(a2m c l most).1=(a3d c l).take most.toNat:=by
 rw[c4w h1 h2 he]
 split
 ·rename_i h;exact h.symm
 ·rfl
end Go.Sx
set_option linter.all false
namespace Go.Sx
open Go
def c7N (P:Program) (o:Oper) (Q:Exit→Act→World→Prop):Exit→Act→World→Prop
 |.normal,a,w=>∃d,(execOp a.eval o).run P w = .ok (.defer d) w∧Q .normal { a with defers:=d::a.defers } w
 |e,a,w=>Q e a w
theorem c1F {P:Program} {ops:Array Oper} {Q:Exit→Act→World→Prop} {o:Oper} (hn:o.dst=none) (hg:o.guard=none):∀(l:List Oper) (a:Act) (w:World),wpL P ops (c7N P o Q) l a w→wpListIn (fen none) 0 P ops Q (l++[o]) a w
 | [],a,w,h=>by
  obtain⟨d,h1,h2⟩:∃d,(execOp a.eval o).run P w = .ok (.defer d) w∧Q .normal { a with defers:=d::a.defers } w:=h
  show wpListIn (fen none) 0 P ops Q [o] a w
  unfold wpListIn;rw[if_pos (by simp[Region.wanted,hg])];refine⟨fun _ _=>trivial,?_⟩
  have e:Oper.semAt (fen none).round a.eval o=execOp a.eval o:=rfl
  rw[e,h1]
  show wpListIn (fen none) 0 P ops Q [] (Act.put { a with defers:=d::a.defers } o.dst undef) w
  rw[hn];exact h2
 |o'::rest,a,w,h=>by
  have h:one P ops (c7N P o Q) o' (wpL P ops (c7N P o Q) rest) a w:=h
  have h:one P ops Q o' (wpListIn (fen none) 0 P ops Q (rest++[o])) a w:=b1W (fun a w h=>c1F hn hg rest a w h) h
  unfold one at h
  show wpListIn (fen none) 0 P ops Q (o'::(rest++[o])) a w
  unfold wpListIn
  split
  ·rename_i hw;rw[if_pos hw]at h;exact b5d h
  ·rename_i hw;rw[if_neg hw]at h;exact⟨fun _ _=>trivial,h⟩
structure FnDf (P:Program) (f:FuncId) (args:Array Value) (I:IMap) (H:List Res) (post:IMap→List Res→Prop):Prop where
 go:∀w,Mem ⟨a2l H,I,w⟩ I H w→CallsDIn Fence.wide 0 P f args .returning w fun e u w'=>u = .returning∧∃v I' H',e = .returned v∧Mem ⟨a2l H,I,w⟩ I' H' w'∧post I' H'
section
variable {P:Program} {ρ:Option Nat} {n:Sz} {E:Ent} {I:IMap} {L:LL} {H:List Res} {Q:Exit→Act→World→Prop} {ops:Array Oper}
variable {ty:Nat} {pos:String} {af:Array Edge} {fo:Operand} {as_:List Operand} {ats:Array TypeId} {f:FuncId}
theorem b6T {id:Nat} {o1 o2:Oper} (hn:o2.dst=none) (hg:o2.guard=none) (h:SX n E I L H (wpL P [o1,o2].toArray (c7N P o2 Q) [o1])):SX n E I L H ((Code.region id [o1,o2].toArray false).wq none P Q):=
 fun a w s m=>wpIn_region_lit (c1F (l:=[o1]) hn hg _ _ (h a w s m))
theorem c9l {fs cs:Array Value} {vs:List Value} (hf:ev L fo=some (.func (.func f) fs cs)) (ha:evs L as_=some vs)
  (h:SX ⟨n.sz,.f { target:=.fn (.func f) cs,args:=fs++vs.toArray } :: n.D⟩ E I L H (Q .normal)):SX n E I L H (c7N P ⟨none,.defer { callee:=.value fo,args:=as_.toArray,argTypes:=ats },ty,pos,af,none⟩ Q .normal):=fun a w s m=>by
 refine⟨_,?_,h { a with defers:=_ } w ⟨s.size,by show _::a.defers=_;rw[s.defers];rfl,s.get⟩ m⟩
 have e:=a6S s as_ vs ha
 simp only[execOp,resolve,s.ev hf]
 simp[Deferred.ofValue,e,go_sem]
 rfl
theorem b6j {k:Nat} {D:List Mk} {fn:Func} {R:Ending→World→Prop} {Hc H0:List Res} {args cap:Array Value} {post:IMap→List Res→Prop} (hcall:∀(args:Array Value) (w:World),(callFunc f args).run P w = .ok (.enter f args) w)
  (hc:FnDf P f (args++cap) I Hc post) (kk:∀I' H',ILe I I'→post I' H'→SX ⟨k,D⟩ E I' L (H'++H0) (b6L P fn R .ret)) :
  SX ⟨k,.f { target:=.fn (.func f) cap,args:=args } :: D⟩ E I L (Hc++H0) (b6L P fn R .ret):=fun a w s m=>by
 show LeavesInM Fence.wide 0 P fn a.tmps R a.defers .returning w
 rw[s.defers];refine⟨by simp,.inr ⟨fun h=>by simp[Fence.wide]at h,.func f,cap,f,args++cap,rfl,?_,fun _ _=>trivial,CallsDIn.mono (hc.go w m.call) ?_⟩⟩
 ·simp[invoke,go_sem,hcall,Mk.of]
 ·rintro e u w' ⟨rfl,v,I',H',rfl,hm,hp⟩
  have:=kk I' H' hm.mono hp { a with defers:=(Sz.mk k D).marks } w' ⟨s.size,rfl,s.get⟩ (m.back hm)
  exact this
def d0F (P:Program) (fn:Func) (R:Ending→World→Prop):Exit→Act→World→Prop:=bodyPost P fn R
theorem c8j {fn:Func} {c:Code} {args:List Value} {k:Nat} {post:IMap→List Res→Prop} (hf:P.funcs[f]? = some fn) (hb:fn.body=some c) (hn:fn.ntmps=k)
  (hl:Nat.ble args.length k=true) (h:∀w,SX ⟨k,[]⟩ ⟨a2l H,I,w⟩ I (b1j args 0) H (c.wq none P (d0F P fn (a8U ⟨a2l H,I,w⟩ fun _ I' H'=>post I' H')))):FnDf P f args.toArray I H post:=by
 refine⟨fun w m=>?_⟩;refine CallsDIn.mono (callsDIn_of_wp (F:=Fence.wide) hf hb trivial (h w _ _ ⟨?_,rfl,?_⟩ m)) ?_
 ·simp only[List.size_toArray,Array.size_append,Array.size_replicate,hn]
  have:args.length≤k:=by simpa using hl
  omega
 ·intro i v hv;obtain⟨_,h2⟩:=b0C args 0 i v hv
  have hlt:i<args.length:=by
   rcases Nat.lt_or_ge i args.length with h|h
   ·exact h
   ·simp[List.getElem?_eq_none h]at h2
  rw[Array.getElem?_append_left (by simpa using hlt)]
  simpa using h2
 ·rintro e u w' ⟨rfl,v,I',H',rfl,hm,hp⟩;exact⟨rfl,v,I',H',rfl,hm,hp⟩
theorem d0g {k:Nat} {fn:Func} {R:Ending→World→Prop} (hf:fn.results=#[]) (h:SX ⟨k,[]⟩ E I L H fun _ w=>R (.returned (.tuple #[])) w):SX ⟨k,[]⟩ E I L H (d0F P fn R .normal):=fun a w s m=>
 ⟨by rw[s.defers];rfl,_,d0B hf a w,h a w s m⟩
end
end Go.Sx
set_option linter.all false
namespace Go.Sx
open Go
section
variable {P:Program} {ρ:Option Nat} {n:Sz} {E:Ent} {I:IMap} {L:LL} {H:List Res} {Q:Exit→Act→World→Prop} {ops:Array Oper} {K:Act→World→Prop}
variable {d ty:Nat} {pos:String} {af:Array Edge} {fo:Operand} {as_:List Operand} {ats:Array TypeId} {f:FuncId} {args:List Value} {g t:Nat} {cs:List Value} {w:World}
theorem b5L (mm:Mem E I H w) (hm:Res.blk g t cs∈H):ILe I (I.pub g (.cells cs.toArray t (0,0))):=IMap.pub_le _ (mm.priv _ hm g rfl).1
theorem b0A:ICells (I.pub g (.cells cs.toArray t (0,0))) g 0 cs:=fun j u hu=>⟨_,t,(0,0),IMap.pub_same _ _ _,by rw[Nat.zero_add];simpa using hu⟩
theorem b5M (mm:Mem E I H w) (hm:Res.blk g t cs∈H):Mem ⟨[],I.pub g (.cells cs.toArray t (0,0)),w⟩ (I.pub g (.cells cs.toArray t (0,0))) [] w:=
 ⟨Upd.refl _ _,fun b o hb=>by
  have hg:w.heap[g]? = some (.cells cs.toArray t (0,0)):=mm.holds _ hm
  unfold IMap.pub at hb
  split at hb
  ·rename_i e;subst e;cases hb;exact hg
  ·exact mm.con b o hb,ILe.refl _,fun b hb=>.inl hb,fun _ h=>(by cases h),fun _ h=>(by cases h),List.nodup_nil⟩
theorem b9T {v:Value} (hm:Res.blk g t cs∈H) (hc:∀I2,ILe I I2→ICells I2 g 0 cs→FnI P f args.toArray I2 fun u _=>u=v) (h:a1R L fo as_=some (f,args)) (hd:Nat.blt d n.sz=true)
  (kk:SX n E I ((d,v)::L) H K):SX n E I L H (one P ops Q ⟨some d,.call { callee:=.value fo,args:=as_.toArray,argTypes:=ats },ty,pos,af,none⟩ K):=by
 intro a w s mm
 have h1:=(hc _ (b5L mm hm) b0A).go w (b5M mm hm)
 unfold one;rw[if_pos (by rfl)];refine a7r ?_;unfold After at h1 ⊢
 rw[a7l s h ⟨some d,.call { callee:=.value fo,args:=as_.toArray,argTypes:=ats },ty,pos,af,none⟩ rfl (ats:=ats)]
 have key:∀e w'',a8U ⟨[],(I.pub g (.cells cs.toArray t (0,0))),w⟩ (fun u I' H'=>u=v∧H'=[]) e w''→(match e with | .returned v=>K (a.put (some d) v) w''|_=>False):=by
  rintro e w'' ⟨u,I',H',rfl,hm',rfl,rfl⟩;exact kk _ _ (s.put hd) (mm.other hm'.upd.os hm'.upd.tape hm'.upd.output hm'.upd.size (fun k hk=>hm'.upd.block k hk (by simp)))
 split at h1
 ·rename_i v w' hr;exact key _ _ h1
 ·rename_i f' args' w' hr;exact Calls.mono h1 key
 ·rename_i l f' tmps assign body w' hr;exact RoundIn.mono h1 key
 ·exact h1.elim
theorem c6t {p:Value→Res→Prop} (hm:Res.blk g t cs∈H) (hc:∀I2,ILe I I2→ICells I2 g 0 cs→FnX P f args.toArray I2 [] p) (h:a1R L fo as_=some (f,args)) (hd:Nat.blt d n.sz=true)
  (kk:∀u r,p u r→SX n E I ((d,u)::L) (r::H) K):SX n E I L H (one P ops Q ⟨some d,.call { callee:=.value fo,args:=as_.toArray,argTypes:=ats },ty,pos,af,none⟩ K):=by
 intro a w s mm
 have h1:=(hc _ (b5L mm hm) b0A).go w (b5M mm hm)
 unfold one;rw[if_pos (by rfl)];refine a7r ?_;unfold After at h1 ⊢
 rw[a7l s h ⟨some d,.call { callee:=.value fo,args:=as_.toArray,argTypes:=ats },ty,pos,af,none⟩ rfl (ats:=ats)]
 have key:∀e w'',a8U ⟨[],(I.pub g (.cells cs.toArray t (0,0))),w⟩ (fun u I' H'=>I'=(I.pub g (.cells cs.toArray t (0,0)))∧∃r,H'=[r]∧p u r) e w''→(match e with | .returned v=>K (a.put (some d) v) w''|_=>False):=by
  rintro e w'' ⟨u,I',H',rfl,hm',rfl,r,rfl,hp⟩;refine kk u r hp _ _ (s.put hd) (mm.new hm'.upd.os hm'.upd.tape hm'.upd.output hm'.upd.size (fun k hk=>hm'.upd.block k hk (by simp)) (hm'.holds r (List.mem_cons_self ..)) fun b hb=>?_)
  rcases (hm'.priv r (List.mem_cons_self ..) b hb).2 with h|h
  ·exact h
  ·cases h
 split at h1
 ·rename_i v w' hr;exact key _ _ h1
 ·rename_i f' args' w' hr;exact Calls.mono h1 key
 ·rename_i l f' tmps assign body w' hr;exact RoundIn.mono h1 key
 ·exact h1.elim
theorem c6r {r0:Res} {Hc:List Res} {post:Value→IMap→List Res→Prop} (hc:FnH P f args.toArray I Hc post) (h:a1R L fo as_=some (f,args)) (hd:Nat.blt d n.sz=true)
  (k:∀u I' H',ILe I I'→post u I' H'→SX n E I' ((d,u)::L) (r0::H') K) :
  SX n E I L (r0::Hc) (one P ops Q ⟨some d,.call { callee:=.value fo,args:=as_.toArray,argTypes:=ats },ty,pos,af,none⟩ K):=by
 refine a3T (H':=Hc++[r0]) (by simpa using List.perm_append_comm (l₁:=[r0]) (l₂:=Hc)) ?_;refine a4o (Hc:=Hc) (H0:=[r0]) hc h hd fun u I' H' hI hp=>?_
 exact a3T (H':=r0::H') (by simpa using List.perm_append_comm (l₁:=H') (l₂:=[r0])) (k u I' H' hI hp)
theorem b9R {Hc:List Res} {post:Value→IMap→List Res→Prop} (hc:FnH P f args.toArray I Hc post) (h:a1R L fo as_=some (f,args)) (hd:Nat.blt d n.sz=true)
  (k:∀u I' H',ILe I I'→post u I' H'→SX n E I' ((d,u)::L) H' K) :
  SX n E I L Hc (one P ops Q ⟨some d,.call { callee:=.value fo,args:=as_.toArray,argTypes:=ats },ty,pos,af,none⟩ K):=by
 refine a3T (H':=Hc++[]) (by simp) ?_;refine a4o (Hc:=Hc) (H0:=[]) hc h hd fun u I' H' hI hp=>?_
 exact a3T (H':=H') (by simp) (k u I' H' hI hp)
end
section
variable {P:Program} {n:Sz} {E:Ent} {I:IMap} {L:LL} {H:List Res} {K:Act→World→Prop}
theorem b8N {ρ:Option Nat} {Q:Exit→Act→World→Prop} {l:List Oper} {r1 r2:Res} {id:Nat} (hm:P.follows .mixedOrders=true)
  (h:SX n E I L (r1::r2::H) (a3c P l.toArray (NQ Q) (a3q E I [r1,r2]) l.length (Array.replicate l.length false))):SX n E I L (r1::r2::H) ((Code.region id l.toArray true).wq ρ P Q):=a9h [r1,r2] hm h
theorem a3o {g t:Nat} {cs:List Value} (cs2:List Value) (e:cs=cs2) (h:SX n E I L (.blk g t cs2::H) K):SX n E I L (.blk g t cs::H) K:=e▸h
theorem a8T {a:Res} (h:SX n E I L (a::H) K):SX n E I L ([a]++H) K:=h
theorem b6E {a b:Res} (h:SX n E I L (a::b::H) K):SX n E I L ([a,b]++H) K:=h
end
def a3j (ch:List Int):List Value:=ch.map ci
theorem a9s (ch:List Int):(a3j ch).length=ch.length:=by simp[a3j]
theorem c2D {ch:List Int} {i:Nat} (h:i<ch.length):(a3j ch)[i]? = some (ci ch[i]):=by simp[a3j,h]
theorem a9t (ch:List Int) (i:Nat) (x:Int):(a3j ch).set i (ci x)=a3j (ch.set i x):=by simp[a3j,List.map_set]
theorem c2E {I:IMap} {g:Nat} {ch:List Int} (h:ICells I g 0 (a3j ch)) (hl:ch.length≤9223372036854775807):RdS I (.slice (some ⟨g,0,none⟩) ch.length ch.length) ch:=by
 refine⟨some ⟨g,0,none⟩,ch.length,rfl,fun hp=>⟨g,0,rfl,fun i x hi=>⟨[ci x],fun j u hu=>?_,rfl⟩⟩,Nat.le_refl _,hl⟩
 have h1:(a3j ch)[i]? = some (ci x):=by simp[a3j,hi]
 cases j with
 |zero=>
  have e:u=ci x:=by simpa using hu.symm
  subst e
  have:=h i _ h1
  have e2:0+i * Enc.k Int+0=0+i:=by show 0+i * 1+0=0+i;omega
  rw[e2];exact this
 |succ j=>simp at hu
theorem b2S (n:Nat):(List.replicate n [ci 0]).flatten=a3j (List.replicate n 0):=by
 induction n with
 |zero=>rfl
 |succ n ih=>rw[List.replicate_succ,List.flatten_cons,ih];rfl
theorem b0w {I:IMap} (ch:List Int):Flat I (a3j ch) ch:=by
 induction ch with
 |nil=>exact .nil
 |cons x r ih=>exact .cons rfl ih
theorem b9g {I:IMap} {xs:List Value} {l:List Int} (h:Flat I xs l):xs=a3j l:=by
 induction h with
 |nil=>rfl
 |cons h1 _ ih=>rw[ih];rw[show _=_ from h1];rfl
section
variable {P:Program} {ρ:Option Nat} {n:Sz} {E:Ent} {I I':IMap} {L:LL} {H H0:List Res} {Q:Exit→Act→World→Prop} {ops:Array Oper} {K:Act→World→Prop}
variable {d ty:Nat} {pos:String} {af:Array Edge} {fo:Operand} {as_:List Operand} {ats:Array TypeId} {f:FuncId} {args:List Value}
theorem a8K {post:Value→IMap→List Res→Prop} (hc:FnH P f args.toArray I [] post) (h:a1R L fo as_=some (f,args)) (hd:Nat.blt d n.sz=true)
  (k:∀v I' H',ILe I I'→post v I' H'→SX n E I' ((d,v)::L) (H'++H0) K) :
  SX n E I L H0 (one P ops Q ⟨some d,.call { callee:=.value fo,args:=as_.toArray,argTypes:=ats },ty,pos,af,none⟩ K):=a4o (Hc:=[]) hc h hd k
end
end Go.Sx
set_option linter.all false
namespace Go.Sx
open Go
theorem a6Z {I:IMap} {g n:Nat} {ch:List Int} (h:ICells I g 0 (a3j ch)) (e:ch.length=n) (hl:n≤1000000):RdS I (.slice (some ⟨g,0,none⟩) n n) ch:=by
 subst e;exact c2E h (by omega)
section
variable {c:List Kind} {l:List Rep} {pre:List Int} {r:Rep} {rs:List Rep}
theorem Mid.get (h:Mid c l pre (r::rs)):∃hp:pre.length<l.length,l[pre.length]=r:=by
 obtain⟨a,e1,e2,_⟩:=h.is;refine⟨by rw[e1,e2];simp,?_⟩;subst e1
 simp[e2]
theorem Mid.more (h:Mid c l pre rs) (hp:pre.length<l.length):∃r rs',rs=r::rs':=by
 cases rs with
 |nil=>have:=h.len;simp at this;omega
 |cons r rs'=>exact⟨r,rs',rfl⟩
theorem Mid.full (h:Mid c l pre rs) (hp:¬pre.length<l.length):rs=[]:=by
 have:=h.len
 exact List.eq_nil_of_length_eq_zero (by omega)
theorem Mid.pos1 (h:Mid c l pre (r::rs)):chs r≠0:=h.pos r (by obtain⟨a,e1,_⟩:=h.is;rw[e1];simp)
theorem b5Y {ch:List Int} (he:pre++a2X (r::rs)=ch) (hp:pre.length<ch.length):ch[pre.length]=if 1<chs r then -1 else 0:=by
 subst he;simp[a2X]
theorem b1X:(a2X rs).length=rs.length:=by simp[a2X]
theorem Mid.chlen (h:Mid c l pre rs) {ch:List Int} (he:pre++a2X rs=ch):ch.length=l.length:=by
 rw[←he,List.length_append,b1X];exact h.len
theorem b9X (h1:¬1<chs r):(pre++[0])++a2X rs=pre++a2X (r::rs):=by
 simp[a2X,h1]
theorem a7i {ch:List Int} (he:pre++a2X (r::rs)=ch) (k:Int):ch.set pre.length k=(pre++[k])++a2X rs:=by
 subst he;rw[List.set_append_right _ _ (Nat.le_refl _),Nat.sub_self]
 simp[a2X]
theorem b6u {ch:List Int} {p:Nat} (hp:p<ch.length) (h:ch[p] = -1) (z:Int):(ch.set p z).set p (-1)=ch:=by
 rw[List.set_set,←h,List.set_getElem_self]
theorem c3G {ch:List Int} {p:Nat} (hp:p<ch.length):ch=ch.set p ch[p]:=by rw[List.set_getElem_self]
theorem c2y {α:Type} (f:Nat→List α) (done:List α) {k K:Nat} (h:k<K) {x:List α} (hx:x <+: (done++(List.range k).flatMap f)++f k):x <+: done++(List.range K).flatMap f:=by
 refine hx.trans ?_
 have e:(done++(List.range k).flatMap f)++f k=done++(List.range (k+1)).flatMap f:=by rw[List.range_succ,List.flatMap_append];simp
 rw[e];refine (List.prefix_append_right_inj _).2 ?_
 have e2:List.range K=List.range (k+1)++(List.range (K-(k+1))).map (k+1 + ·):=by
  rw[←List.range_add];congr 1;omega
 rw[e2,List.flatMap_append];exact List.prefix_append _ _
theorem b9h {α:Type} (f:Nat→List α) (done:List α) (k:Nat):(done++(List.range k).flatMap f)++f k=done++(List.range (k+1)).flatMap f:=by
 rw[List.range_succ,List.flatMap_append];simp
end
theorem b1r (r:Rep):chs r≤5:=by
 unfold chs
 split
 ·omega
 ·rename_i h
  have:=a2S (r:=r) (by simpa using h)
  split<;>omega
def b1d (c:List Kind) (l:List Rep) (J:Bool→List (List Int)→IMap→List Res→Prop) (g t:Nat) (ch:List Int) (pre:List Int) (rs:List Rep) (done:List (List Int)) (u:Value) (I:IMap) (H:List Res):Prop:=
 ∃b dn Hc,u = .bool b∧H = .blk g t (a3j ch)::Hc∧J b dn I Hc∧(b=true→dn=done++b2h c l pre rs)∧(b=false→dn <+: done++b2h c l pre rs)
theorem a8B {l:List Rep} {i:Nat} (h:i<l.length):c1I (l.take (i+1))=c1I (l.take i)+if 1<chs l[i] then 1 else 0:=by
 rw[←a0i h,c1I,List.filter_append,List.length_append,c1I]
 by_cases hc:1<chs l[i]<;>simp[hc]
theorem b8Q {c:List Kind} {l:List Rep} {i:Nat} (hc:a1g c=true) (h:i<l.length) (h0:chs l[i]=0):a7A c l=1:=by
 unfold a7A;rw[if_neg (by rw[hc];decide),if_pos (List.any_eq_true.2 ⟨_,List.getElem_mem h,by simp[h0]⟩)]
theorem b8R {c:List Kind} {l:List Rep} (hc:a1g c=false):a7A c l=1:=by unfold a7A;rw[if_pos hc]
theorem b1w {c:List Kind} {l:List Rep} (hc:a1g c=true) (hp:∀r∈l,chs r≠0):a7A c l=if (30:Int)<(c1I l:Nat) then 7 else 0:=by
 unfold a7A;rw[if_neg (by rw[hc];decide),if_neg (by rw[List.any_eq_true];rintro⟨r,hr,h0⟩;exact hp r hr (by simpa using h0))]
theorem a8M {l:List Rep} {i:Nat} (h:i<l.length) (hp:∀r∈l.take i,chs r≠0) (h0:chs l[i]≠0):∀r∈l.take (i+1),chs r≠0:=fun r hr=>by
 rw[←a0i h]at hr
 rcases List.mem_append.1 hr with hr|hr
 ·exact hp r hr
 ·obtain rfl:=List.mem_singleton.1 hr;exact h0
def a4p (l:List Rep) (i:Nat):List Int:=a2X (l.take i)++List.replicate (l.length-i) 0
theorem b7x (l:List Rep) {i:Nat} (h:i≤l.length):(a4p l i).length=l.length:=by
 simp[a4p,b1X];omega
theorem a9y {l:List Rep} {i:Nat} (h:i<l.length):a4p l (i+1)=if 1<chs l[i] then (a4p l i).set i (-1) else a4p l i:=by
 have e:(a2X (l.take i)).length=i:=by rw[b1X,List.length_take];omega
 have e2:List.replicate (l.length-i) (0:Int)=0::List.replicate (l.length-(i+1)) 0:=by
  rw[show l.length-i=(l.length-(i+1))+1 by omega,List.replicate_succ]
 have e3:a2X (l.take i++[l[i]])=a2X (l.take i)++[if 1<chs l[i] then -1 else 0]:=by simp only[a2X,List.map_append,List.map_cons,List.map_nil]
 unfold a4p;rw[←a0i h,e3,List.append_assoc]
 by_cases hc:1<chs l[i]
 ·rw[if_pos hc,if_pos hc,List.set_append_right _ _ (by omega),e,Nat.sub_self,e2];rfl
 ·rw[if_neg hc,if_neg hc,e2];rfl
theorem b4z (l:List Rep):a4p l l.length=a2X l:=by simp[a4p]
end Go.Sx
namespace Go.Proofs.YtdapmfkbpnjkmaaGreat
open Go Go.Sx
set_option linter.all false
set_option maxRecDepth 20000
set_option maxHeartbeats 4000000
instance T.by_3:Has (a2D Tryz.prog 3) ([.int .i64 0],1,8):=⟨by kernel_rfl⟩
instance T.ty_256:Has (tyK Tryz.prog 256) (false,1):=⟨by kernel_rfl⟩
instance T.ty_257:Has (tyK Tryz.prog 257) (false,1):=⟨by kernel_rfl⟩
theorem c0O (I:IMap) (vc:Value) (c:List Kind) (hvc:RdS I vc c) (hsc:SmC c) (v:Value) (l:List Rep) (hv:RdS I v l) (hl:l.length≤1000000) (hsl:∀r∈l,∀e∈r.options,SmE e)  :
    FnV Tryz.prog 119 #[.agg #[vc],v] I (.int .i64 (a7A c l)):=by
 obtain⟨A,c0,rfl,hA,hc,hm⟩:=hv;refine enter Tryz.func119 Tryz.call119 rfl Tryz.ntmps119 rfl (fun w0=>?_);refine go 3 ?_;refine a0B _ rfl rfl rfl (fun g2=>?_);refine go 8 ?_;refine a0d (a6L _ vc c hvc hsc) rfl rfl ?_;refine go 3 ?_;refine cb rfl (fun h11 p11=>?_) (fun h11 p11=>?_)
 ·refine go 7 ?_;refine a0s rfl rfl ?_;exact q_v (congrArg (Value.int .i64) (b8R (by simpa using h11)).symm)
 ·have hC:a1g c=true:=by simpa using h11
  refine go 16 ?_;refine a0b ?_
  refine a0Q (α:=Nat) 0 (fun i=>I)
   (fun i=>[(5,.int .i64 ((c1I (l.take i):Nat):Int)),(12,.slice A l.length c0),(13,.int .i64 ((l.length:Nat):Int)),(14,.int .i64 ((i:Nat):Int))])
   (fun i=>[])
   (fun i=>i≤l.length∧∀r∈l.take i,chs r≠0)
   (fun i=>l.length-i) ⟨Nat.zero_le _,fun r hr=>by simp at hr⟩ rfl sb rfl ?_
  intro i ⟨hi,hp⟩
  have hdi:c1I (l.take i)≤(l.take i).length:=List.length_filter_le _ _
  rw[List.length_take]at hdi
  refine go 6 ?_;refine cb rfl (fun h15 p15=>?_) (fun h15 p15=>?_)
  ·have hlt:i<l.length:=by omega
   refine go 6 ?_;obtain⟨b16,o16,w16,e16,c16,r16⟩:=RdA.at_ hA (i:=i) (by omega);obtain⟨q16,rfl,S16,d16,rfl,hS16,hd16,hm16⟩:=r16;refine o_v rfl (a0h he rfl rfl e16 (i) (by omega) (by omega)) ?_;refine o_v rfl (a0G he rfl c16 rfl) ?_;refine go 1 ?_;refine a0j he rfl (fun g7=>?_);refine go 1 ?_;refine a0p _ he rfl rfl rfl rfl rfl rfl ?_;refine go 6 ?_;refine a0d (a5n _ l[i] S16 d16 ⟨_,_,rfl,hS16,hd16,hm16⟩ (hsl _ (List.getElem_mem hlt))) rfl rfl ?_;refine go 11 ?_;refine cb rfl (fun h20 p20=>?_) (fun h20 p20=>?_)
   ·refine go 12 ?_;refine a0s rfl rfl ?_;exact q_v (congrArg (Value.int .i64) (b8Q hC hlt (by simpa using h20)).symm)
   ·refine go 7 ?_;refine cb rfl (fun h23 p23=>?_) (fun h23 p23=>?_)
    ·refine go 13 ?_;refine a0b ?_;exact a0M (i+1) ⟨by omega,a8M hlt hp (by simpa using h20)⟩ (by omega) rfl ⟨(congrArg (fun z=>some (Value.int .i64 z)) (by rw[a8B hlt,if_pos (by omega)];omega)),rfl,rfl,rfl,trivial⟩ rfl
    ·refine go 9 ?_;refine a0b ?_;exact a0M (i+1) ⟨by omega,a8M hlt hp (by simpa using h20)⟩ (by omega) rfl ⟨(congrArg (fun z=>some (Value.int .i64 z)) (by rw[a8B hlt,if_neg (by omega)];omega)),rfl,rfl,rfl,trivial⟩ rfl
  ·have e:i=l.length:=by omega
   subst e;rw[List.take_length]at hp hdi
   rw[List.take_length];refine go 12 ?_;refine cb rfl (fun h30 p30=>?_) (fun h30 p30=>?_)
   ·refine go 7 ?_;refine a0s rfl rfl ?_;exact q_v (congrArg (Value.int .i64) (by rw[b1w hC hp,if_pos p30]))
   ·refine go 8 ?_;refine a0s rfl rfl ?_;exact q_v (congrArg (Value.int .i64) (by rw[b1w hC hp,if_neg p30]))
theorem c5K (I:IMap) (v:Value) (l:List Int) (hv:RdS I v l) (hl:l.length≤1000000) :
    FnX Tryz.prog 194 #[v] I [] (fun u r=>r = .row u 3 1 l.length (a3j l)):=by
 refine enter Tryz.func194 Tryz.call194 rfl Tryz.ntmps194 rfl (fun w0=>?_);refine go 8 ?_;refine a0c he he rfl rfl rfl rfl rfl rfl rfl (fun v3=>?_);refine go 2 ?_;refine a0y (hv) rfl he he rfl rfl rfl rfl (by omega) (by omega) rfl (fun v5 x5 f5=>?_);refine go 4 ?_;refine a0s rfl rfl ?_;refine b2u (ys:=x5) rfl ?_;rw[Nat.zero_add,b9g f5];exact q_x rfl
theorem c4V (I:IMap) (g3 g6 gc n:Nat) (k3:ICells I g3 0 [.slice (some ⟨gc,0,none⟩) n n]) (ch:List Int) (p:Nat) (hp:p<ch.length) (hn:ch.length=n) :
    FnDf Tryz.prog 195 #[.pointer (some ⟨g3,0,none⟩),.pointer (some ⟨g6,0,none⟩)] I [.blk gc 3 (a3j ch),.blk g6 3 [.int .i64 ((p:Nat):Int)]] (fun I2 H2=>I2=I∧H2=[.blk gc 3 (a3j (ch.set p (-1))),.blk g6 3 [.int .i64 ((p:Nat):Int)]]):=by
 refine c8j Tryz.func195 rfl Tryz.ntmps195 rfl (fun w0=>?_);refine go 1 ?_;refine o_v rfl (a0K he rfl (k3 0 _ rfl)) ?_;refine go 1 ?_;refine o_v rfl (a0h he rfl rfl rfl (p) (by omega) (by omega)) ?_;refine go 1 ?_;refine a2f he rfl rfl rfl (by rw[a9s,Nat.blt_eq];omega) ?_;refine a3o (a3j (ch.set (p) (-1))) (by rw[Nat.zero_add,Nat.mul_one,a9t]) ?_;refine go 1 ?_;refine d0g rfl ?_;exact a4I (fun _ m=>m) ⟨rfl,rfl⟩
theorem c9v (I:IMap) (g1 g2 g3 g4 g5 gc:Nat) (vc:Value) (c:List Kind) (hvc:RdS I vc c) (hsc:SmC c) (l:List Rep) (A:Option Addr) (c0:Nat) (hv:RdS I (.slice A l.length c0) l) (hl:l.length≤1000000) (hsl:∀r∈l,∀e∈r.options,SmE e) (ly:Nat) (J:Bool→List (List Int)→IMap→List Res→Prop) (hJm:c1M J) (hY:a5I Tryz.prog ly (fun I vs (x:List Int)=>∃v,vs=[v]∧RdS I v x) (fun _ _=>True) J) (k1:ICells I g1 0 [vc]) (k2:ICells I g2 0 [.slice A l.length c0]) (k3:ICells I g3 0 [.slice (some ⟨gc,0,none⟩) l.length l.length]) (k4:ICells I g4 0 [.func (.yield ly) #[] #[]]) (k5:ICells I g5 0 [.func (.func 191) #[] #[.pointer (some ⟨g1,0,none⟩),.pointer (some ⟨g2,0,none⟩),.pointer (some ⟨g3,0,none⟩),.pointer (some ⟨g4,0,none⟩),.pointer (some ⟨g5,0,none⟩)]]) (rs:List Rep) (ih:∀(I2:IMap),ILe I I2→∀(pr:List Int) (rr:List Rep),rr.length<rs.length→Mid c l pr rr→∀(dn:List (List Int)) (Hq:List Res),J true dn I2 Hq→FnH Tryz.prog 191 #[.int .i64 ((pr.length:Nat):Int),.pointer (some ⟨g1,0,none⟩),.pointer (some ⟨g2,0,none⟩),.pointer (some ⟨g3,0,none⟩),.pointer (some ⟨g4,0,none⟩),.pointer (some ⟨g5,0,none⟩)] I2 (.blk gc 3 (a3j (pr++a2X rr))::Hq) (b1d c l J gc 3 (pr++a2X rr) pr rr dn)) (pre:List Int) (hmid:Mid c l pre rs) (ch:List Int) (hch:pre++a2X rs=ch) (done:List (List Int)) (Hc:List Res) (hJt:J true done I Hc) :
    FnH Tryz.prog 191 #[.int .i64 ((pre.length:Nat):Int),.pointer (some ⟨g1,0,none⟩),.pointer (some ⟨g2,0,none⟩),.pointer (some ⟨g3,0,none⟩),.pointer (some ⟨g4,0,none⟩),.pointer (some ⟨g5,0,none⟩)] I (.blk gc 3 (a3j ch)::Hc) (b1d c l J gc 3 ch pre rs done):=by
 have hv0:=hv
 have hA:=hv.toA
 have hcl:=hmid.chlen hch
 refine enter Tryz.func191 Tryz.call191 rfl Tryz.ntmps191 rfl (fun w0=>?_);refine go 3 ?_;refine a0B _ rfl rfl rfl (fun g6=>?_);refine go 6 ?_;refine o_v rfl (a0G he rfl k1 rfl) ?_;refine o_v rfl (a0K he rfl (k2 0 _ rfl)) ?_;refine o_v rfl (a0K he rfl (k3 0 _ rfl)) ?_;refine go 1 ?_;refine b9T m1 (fun I2 hI hC=>c5Y I2 vc c (hvc.le hI) hsc _ l (hv0.le hI) hl hsl _ ch (a6Z hC hcl hl)) rfl rfl ?_;refine go 2 ?_;refine cb rfl (fun h12 p12=>?_) (fun h12 p12=>?_)
 ·refine go 7 ?_;refine a0s rfl rfl ?_;refine a0b ?_;exact a4I (fun _ m=>m) ⟨true,done,_,rfl,rfl,hJt,fun _=>by rw[c0C hmid (by rw[hch];exact h12),List.append_nil],fun h=>(by cases h)⟩
 ·refine go 3 ?_;refine b1m (Ix:=(fun pr rr=>I)) (Lx:=(fun pr rr=>[(1,.pointer (some ⟨g1,0,none⟩)),(2,.pointer (some ⟨g2,0,none⟩)),(3,.pointer (some ⟨g3,0,none⟩)),(4,.pointer (some ⟨g4,0,none⟩)),(5,.pointer (some ⟨g5,0,none⟩)),(6,.pointer (some ⟨g6,0,none⟩))])) (Hx:=(fun pr rr=>.blk gc 3 (a3j ch) :: .blk g6 3 [.int .i64 ((pr.length:Nat):Int)]::Hc)) (p:=(fun pr rr=>Mid c l pr rr∧pr++a2X rr=ch∧b2h c l pre rs=b2h c l pr rr∧rr.length≤rs.length∧∀q0 q1,rr=q0::q1→1<chs q0)) ?_ ?_
  ·refine go 1 ?_;refine a0f ?_
   refine a1z (pre) (rs) (fun pr rr=>I)
    (fun pr rr=>[(1,.pointer (some ⟨g1,0,none⟩)),(2,.pointer (some ⟨g2,0,none⟩)),(3,.pointer (some ⟨g3,0,none⟩)),(4,.pointer (some ⟨g4,0,none⟩)),(5,.pointer (some ⟨g5,0,none⟩)),(6,.pointer (some ⟨g6,0,none⟩))])
    (fun pr rr=>.blk gc 3 (a3j ch) :: .blk g6 3 [.int .i64 ((pr.length:Nat):Int)]::Hc)
    (fun pr rr=>Mid c l pr rr∧pr++a2X rr=ch∧b2h c l pre rs=b2h c l pr rr∧rr.length≤rs.length)
    (fun pr rr=>rr.length) ⟨hmid,hch,rfl,Nat.le_refl _⟩ rfl sb rfl ?_
   intro pr rr ⟨hm,hee,hr,hle⟩
   have hml:=hm.len
   have hcl:=hm.chlen hee
   refine go 4 ?_;refine o_v rfl (a0K he rfl (k2 0 _ rfl)) ?_;refine go 3 ?_;refine sxb 17 rfl (fun h17 p17=>?_) (fun h17 p17=>?_)
   ·obtain⟨q0,q1,rfl⟩:=hm.more (by omega)
    have hop:=b5Y hee (by omega)
    have hp1:=hm.pos1
    have hnn:=b5n q0
    refine a1d (a0R rfl rfl h17 (a0t rfl (a0K he rfl (k3 0 _ rfl)) ?_));refine go 1 ?_;refine a1d (a0R rfl rfl h17 (a0t rfl (a0h he rfl rfl rfl (pr.length) (by omega) (by omega)) ?_));refine a1d (a0R rfl rfl h17 (a0t rfl (OV.cast (u:=.int .i64 (if 1<chs q0 then -1 else 0)) (a2H m0 he rfl (by rw[Nat.zero_add,Nat.mul_one];exact c2D (by omega))) (congrArg (Value.int .i64) hop)) ?_));refine go 4 ?_;refine cb rfl (fun h23 p23=>?_) (fun h23 p23=>?_)
    ·have h1c:chs q0=1:=by
       by_cases h1:1<chs q0
       · rw[if_pos h1]at p23;omega
       · omega
     refine go 7 ?_;refine a0f ?_;refine a0p _ he rfl rfl rfl rfl rfl rfl ?_;refine go 3 ?_;refine a0f ?_;exact a0X (pr++[0]) (q1) ⟨hm.next (r:=q0) (Int.le_refl _) (by omega),by rw[b9X (r:=q0) (by omega)];exact hee,by rw[hr,c6T h1c],by simp at hle;omega⟩ (by simp) rfl sb (by rw[List.length_append];rfl)
    ·have h1c:1<chs q0:=by
       by_cases h1:1<chs q0
       · exact h1
       · rw[if_neg h1]at p23;omega
     refine go 5 ?_;exact a4H (_) (_) ⟨hm,hee,hr,hle,fun _ _ e=>by cases e;exact h1c⟩ sb rfl rfl
   ·refine go 8 ?_;refine a0T rfl ?_;refine go 5 ?_;exact a4H (_) (_) ⟨hm,hee,hr,hle,fun q0 q1 e=>by subst e;simp at hml;omega⟩ sb rfl rfl
  ·intro pr rr ⟨hm,hee,hr,hle,h1c⟩
   have hml:=hm.len
   have hcl:=hm.chlen hee
   refine go 4 ?_;refine o_v rfl (a0K he rfl (k2 0 _ rfl)) ?_;refine go 4 ?_;refine cb rfl (fun h29 p29=>?_) (fun h29 p29=>?_)
   ·obtain rfl:=hm.full (by omega)
    have hpc:pr=ch:=by rw[←hee];simp[a2X]
    rw[hpc]at hm hr
    refine go 1 ?_;refine a2Z (fun hE6 hf6=>?_);refine b8N T.mixed ?_;refine a0e 0 rfl rfl (by kernel_rfl) rfl (.cons₂ _ (.cons₂ _ (List.nil_sublist _))) rfl (a0G he rfl k1 rfl) ?_;refine a0e 1 rfl rfl (by kernel_rfl) rfl (.cons₂ _ (.cons₂ _ (List.nil_sublist _))) rfl (a0K he rfl (k2 0 _ rfl)) ?_;refine a0e 2 rfl rfl (by kernel_rfl) rfl (.cons₂ _ (.cons₂ _ (List.nil_sublist _))) rfl (a0K he rfl (k3 0 _ rfl)) ?_;refine a0m 3 (by kernel_rfl) rfl ?_;refine b9T m0 (fun I2 hI hC=>d0U I2 vc c (hvc.le hI) hsc _ l (hv0.le hI) hl hsl _ ch (a6Z hC hcl hl)) rfl rfl ?_;refine a0D (fun _ m=>m.keeps (.cons₂ _ (.cons₂ _ (List.nil_sublist _)))) ?_;refine a0e 4 rfl rfl (by kernel_rfl) rfl (.cons₂ _ (.cons₂ _ (List.nil_sublist _))) rfl (a8x rfl) ?_;refine a0e 5 rfl rfl (by kernel_rfl) rfl (.cons₂ _ (.cons₂ _ (List.nil_sublist _))) rfl (a0a rfl) ?_;refine sxb 35 rfl (fun h35 p35=>?_) (fun h35 p35=>?_)
    ·refine d_t 6 rfl rfl (by kernel_rfl) rfl (fun _ m=>m.keeps (.cons₂ _ (.cons₂ _ (List.nil_sublist _)))) (a0A rfl rfl h35) ?_;refine d_t 7 rfl rfl (by kernel_rfl) rfl (fun _ m=>m.keeps (.cons₂ _ (.cons₂ _ (List.nil_sublist _)))) (a0A rfl rfl h35) ?_;refine d_t 8 rfl rfl (by kernel_rfl) rfl (fun _ m=>m.keeps (.cons₂ _ (.cons₂ _ (List.nil_sublist _)))) (a0A rfl rfl h35) ?_;refine d_t 9 rfl rfl (by kernel_rfl) rfl (fun _ m=>m.keeps (.cons₂ _ (.cons₂ _ (List.nil_sublist _)))) (a0A rfl rfl h35) ?_;refine a0e 10 rfl rfl (by kernel_rfl) rfl (.cons₂ _ (.cons₂ _ (List.nil_sublist _))) rfl (a2s h35 rfl) ?_;refine a0e 11 rfl rfl (by kernel_rfl) rfl (.cons₂ _ (.cons₂ _ (List.nil_sublist _))) rfl (a0Y rfl) ?_;refine a0n (by kernel_rfl) ?_;refine go 3 ?_;refine a0s rfl rfl ?_;refine a0f ?_;refine a0b ?_;exact a4I (fun _ m=>m) ⟨true,done,_,rfl,rfl,hJt,fun _=>by rw[hr,b4J,if_neg (by simpa using h35),List.append_nil],fun h=>(by cases h)⟩
    ·refine d_t 6 rfl rfl (by kernel_rfl) rfl (fun _ m=>m.keeps (.cons₂ _ (.cons₂ _ (List.nil_sublist _)))) (a0k rfl rfl h35 (a0K he rfl (k4 0 _ rfl))) ?_;refine d_t 7 rfl rfl (by kernel_rfl) rfl (fun _ m=>m.keeps (.cons₂ _ (.cons₂ _ (List.nil_sublist _)))) (a0k rfl rfl h35 (a0K he rfl (k3 0 _ rfl))) ?_;refine a0m 8 (by kernel_rfl) rfl ?_;refine a0R rfl rfl h35 (c6t m0 (fun I2 hI hC=>c5K I2 _ ch (a6Z hC hcl hl) (by omega)) rfl rfl (fun v38 s38 q38=>?_));obtain rfl:=q38;refine a0l (l:=ch) rfl rfl (b0w _) (fun I38 j38 R38=>?_)
     try have hvc:=hvc.le j38
     try have hv0:=hv0.le j38
     try have hA:=hA.le j38
     try have k1:=k1.le j38
     try have k2:=k2.le j38
     try have k3:=k3.le j38
     try have k4:=k4.le j38
     try have k5:=k5.le j38
     try have hJt:=hJt.le j38
     refine a0D (fun _ m=>m.keepsI (.cons₂ _ (.cons₂ _ (List.nil_sublist _))) (j38) hE6 hf6) ?_;refine a0m 9 (by kernel_rfl) rfl ?_;refine a0R rfl rfl h35 (a8L (ch) hY (hJm _ _ _ _ _ j38 hJt) (⟨_,rfl,R38⟩) (trivial) rfl rfl rfl (fun b39 I39 Hc39 j39 hJ39=>?_));refine a0D (fun _ m=>m.keepsI (.cons₂ _ (.cons₂ _ (List.nil_sublist _))) ((j38).trans j39) hE6 hf6) ?_;refine d_t 10 rfl rfl (by kernel_rfl) rfl (fun _ m=>m.keepsI (.cons₂ _ (.cons₂ _ (List.nil_sublist _))) ((j38).trans j39) hE6 hf6) (y_v rfl (a3b h35 rfl rfl)) ?_;refine d_t 11 rfl rfl (by kernel_rfl) rfl (fun _ m=>m.keepsI (.cons₂ _ (.cons₂ _ (List.nil_sublist _))) ((j38).trans j39) hE6 hf6) (y_v rfl (a0Y rfl)) ?_;refine a0n (by kernel_rfl) ?_;refine go 3 ?_;refine a0s rfl rfl ?_;refine a0f ?_;refine a0b ?_;exact a4I (fun _ m=>m) ⟨b39,done++[ch],_,rfl,rfl,hJ39,fun _=>by rw[hr,b4J,if_pos (by simpa using h35)],fun _=>by rw[hr,b4J,if_pos (by simpa using h35)];exact List.prefix_refl _⟩
   ·obtain⟨q0,q1,rfl⟩:=hm.more (by omega)
    have h1c:=h1c q0 q1 rfl
    obtain⟨hpl,rfl⟩:=hm.get
    have hop:=b5Y hee (by omega)
    rw[if_pos h1c]at hop
    have hc5:=b1r l[pr.length]
    refine go 3 ?_;refine b6T rfl rfl ?_;refine o_v rfl (a1i rfl rfl) ?_;refine go 1 ?_;refine c9l rfl rfl ?_;refine go 4 ?_;refine o_v rfl (a0K he rfl (k2 0 _ rfl)) ?_;refine go 1 ?_;obtain⟨b44,o44,w44,e44,c44,r44⟩:=RdA.at_ hA (i:=pr.length) (by omega);obtain⟨q44,rfl,S44,d44,rfl,hS44,hd44,hm44⟩:=r44;refine o_v rfl (a0h he rfl rfl e44 (pr.length) (by omega) (by omega)) ?_;refine o_v rfl (a0G he rfl c44 rfl) ?_;refine go 1 ?_;refine a0d (a5n _ l[pr.length] S44 d44 ⟨_,_,rfl,hS44,hd44,hm44⟩ (hsl _ (List.getElem_mem hpl))) rfl rfl ?_;refine go 4 ?_
    refine a5x ((0:Nat)) (ch) (done) (Hc) (I) (fun k cc dn Hq J2=>J2)
     (fun k cc dn Hq J2=>[(1,.pointer (some ⟨g1,0,none⟩)),(2,.pointer (some ⟨g2,0,none⟩)),(3,.pointer (some ⟨g3,0,none⟩)),(4,.pointer (some ⟨g4,0,none⟩)),(5,.pointer (some ⟨g5,0,none⟩)),(6,.pointer (some ⟨g6,0,none⟩)),(46,.int .i64 (chs l[pr.length])),(47,.int .i64 ((k:Nat):Int))])
     (fun k cc dn Hq J2=>.blk gc 3 (a3j cc) :: .blk g6 3 [.int .i64 ((pr.length:Nat):Int)]::Hq)
     (fun k cc dn Hq J2=>((k:Nat):Int)≤chs l[pr.length]∧(∃z,cc=ch.set pr.length z)∧ILe I J2∧J true dn J2 Hq∧dn=done++(List.range k).flatMap (fun (q:Nat)=>b2h c l (pr++[(q:Int)]) q1))
     (fun k cc dn Hq J2=>(chs l[pr.length]).toNat-k) ⟨by omega,⟨_,c3G (by omega)⟩,ILe.refl _,hJt,by simp⟩ rfl sb rfl ?_
    intro k cc dn Hq J2 ⟨hk,⟨z,hz⟩,hJ2,hJt2,hdn⟩;subst hz
    have hcz:(ch.set pr.length z).length=ch.length:=List.length_set
    have hvc:=hvc.le hJ2
    have hv0:=hv0.le hJ2
    have hA:=hA.le hJ2
    have k1:=k1.le hJ2
    have k2:=k2.le hJ2
    have k3:=k3.le hJ2
    have k4:=k4.le hJ2
    have k5:=k5.le hJ2
    refine go 6 ?_;refine cb rfl (fun h48 p48=>?_) (fun h48 p48=>?_)
    ·have hkk:((k:Nat):Int)<chs l[pr.length]:=by omega
     refine go 12 ?_;refine o_v rfl (a0K he rfl (k3 0 _ rfl)) ?_;refine go 2 ?_;refine o_v rfl (a0h he rfl rfl rfl (pr.length) (by omega) (by omega)) ?_;refine go 1 ?_;refine a2f he rfl rfl rfl (by rw[a9s,Nat.blt_eq];omega) ?_;refine a3o (a3j ((pr++[((k:Nat):Int)])++a2X q1)) (by rw[Nat.zero_add,Nat.mul_one];show (a3j _).set _ (ci _)=_;rw[a9t,List.set_set,a7i hee]) ?_;refine go 4 ?_;refine o_v rfl (a0K he rfl (k5 0 _ rfl)) ?_;refine go 1 ?_;refine o_v rfl (OV.cast (u:=.int .i64 (((pr++[((k:Nat):Int)]).length:Nat):Int)) (a2d rfl rfl ⟨by omega,by omega⟩) (congrArg (Value.int .i64) (by simp))) ?_;refine go 1 ?_;refine a0f ?_;refine c6r (ih J2 hJ2 (pr++[((k:Nat):Int)]) q1 (by simp at hle;omega) (hm.next (by omega) hkk) dn Hq hJt2) rfl rfl (fun v57 I57 H57 j57 q57=>?_)
     try have hvc:=hvc.le j57
     try have hv0:=hv0.le j57
     try have hA:=hA.le j57
     try have k1:=k1.le j57
     try have k2:=k2.le j57
     try have k3:=k3.le j57
     try have k4:=k4.le j57
     try have k5:=k5.le j57
     obtain⟨b57,dn2,Hd,rfl,rfl,hJt3,hbt,hbf⟩:=q57;refine go 3 ?_;refine cb rfl (fun h58 p58=>?_) (fun h58 p58=>?_)
     ·have hb:b57=false:=by simpa using h58
      refine go 11 ?_;refine a0f ?_;refine b6j (Hc:=[_,_]) Tryz.call195 (c4V _ g3 g6 gc l.length k3 ((pr++[((k:Nat):Int)])++a2X q1) pr.length (by rw[←a7i hee,List.length_set];omega) (by rw[←a7i hee,List.length_set];omega)) (fun I7 H7 j7 q7=>?_);obtain⟨rfl,rfl⟩:=q7;refine b6E ?_;refine a0s rfl rfl ?_;refine a0f ?_;refine a0b ?_;refine a3o (a3j ch) (by rw[←a7i hee,b6u (by omega) hop]) ?_;exact a4I (fun _ m=>m) ⟨false,dn2,Hd,rfl,rfl,hb▸hJt3,fun h=>(by cases h),fun _=>by rw[hr,b2i];exact c2y (fun (q:Nat)=>b2h c l (pr++[(q:Int)]) q1) done (k:=k) (by omega) (by have:=hbf hb;rwa[hdn]at this)⟩
     ·have hb:b57=true:=by simpa using h58
      refine go 8 ?_;refine a0f ?_;exact a1T (k+1) (_) (_) (_) (_) ⟨by omega,⟨_,(a7i hee _).symm⟩,hJ2.trans j57,hb▸hJt3,by rw[hbt hb,hdn];exact b9h _ _ _⟩ (by omega) rfl sb rfl
    ·refine go 11 ?_;refine a0f ?_;refine a0f ?_;refine b6j (Hc:=[_,_]) Tryz.call195 (c4V _ g3 g6 gc l.length k3 (ch.set pr.length z) pr.length (by omega) (by omega)) (fun I7 H7 j7 q7=>?_);obtain⟨rfl,rfl⟩:=q7;refine b6E ?_;refine a0s rfl rfl ?_;refine a0f ?_;refine a0b ?_;refine a3o (a3j ch) (by rw[b6u (by omega) hop]) ?_;exact a4I (fun _ m=>m) ⟨true,dn,Hq,rfl,rfl,hJt2,fun _=>by rw[hr,b2i,hdn,show (chs l[pr.length]).toNat=k by omega],fun h=>(by cases h)⟩
end Go.Proofs.YtdapmfkbpnjkmaaGreat
set_option linter.all false
namespace Go.Sx
open Go
section
variable {c:List Kind} {l:List Rep}
theorem b6O {most:Int} (h:(a2m c l most).2≠0):(a2m c l most).1=[]:=by
 unfold a2m at h ⊢
 split
 ·rfl
 ·rename_i h1
  split
  ·rfl
  ·rename_i h2
   rw[if_neg h1,if_neg h2]at h
   split
   ·rfl
   ·rename_i h3;rw[if_neg h3]at h;exact absurd rfl h
theorem b8l {most:Int} (h1:1≤most) (h2:most≤4096) (h:(a2m c l most).2=0):a7A c l=0∧a3d c l≠[]∧(a2m c l most).1=(a3d c l).take most.toNat:=by
 rw[b1h h1 h2]at h
 by_cases he:a7A c l=0
 ·rw[if_neg (show ¬(a7A c l≠0) by simp[he])]at h
  refine⟨he,fun hn=>?_,c1Q h1 h2 he⟩;rw[if_pos hn]at h;cases h
 ·rw[if_pos he]at h;exact absurd h he
theorem b3X {a b:Int} (ha:1≤a∧a≤4096) (hb:1≤b∧b≤4096):(a2m c l a).2=(a2m c l b).2:=by
 rw[b1h ha.1 ha.2,b1h hb.1 hb.2]
theorem b0p {a b:Int} (ha:1≤a∧a≤4096) (hb:1≤b∧b≤4096) (hab:a≤b):(a2m c l a).1=(a2m c l b).1.take (a2m c l a).1.length∧(a2m c l a).1.length≤(a2m c l b).1.length∧((a2m c l a).1.length:Int)≤a∧((a2m c l a).1.length=(a2m c l b).1.length∨((a2m c l a).1.length:Int)=a∨(a2m c l a).2≠0):=by
 have hc:=b3X (c:=c) (l:=l) ha hb
 by_cases h:(a2m c l a).2=0
 ·obtain⟨_,_,e1⟩:=b8l ha.1 ha.2 h;obtain⟨_,_,e2⟩:=b8l hb.1 hb.2 (by rw[←hc];exact h);rw[e1,e2]
  have hm:a.toNat≤b.toNat:=by omega
  refine⟨?_,?_,?_,?_⟩
  ·rw[List.take_take,List.length_take]
   rcases Nat.le_total a.toNat (a3d c l).length with h1|h1
   ·rw[Nat.min_eq_left h1,Nat.min_eq_left hm]
   ·rw[Nat.min_eq_right h1,List.take_of_length_le h1,List.take_of_length_le (by omega)]
  ·rw[List.length_take,List.length_take];omega
  ·rw[List.length_take];omega
  ·rw[List.length_take,List.length_take];omega
 ·rw[b6O h];exact⟨by simp,by simp,by simp;omega,.inr (.inr h)⟩
end
end Go.Sx
namespace Go.Proofs.YtdapmfkbpnjkmaaGreat
open Go Go.Sx
set_option linter.all false
set_option maxRecDepth 20000
set_option maxHeartbeats 4000000
instance T.by_65:Has (a2D Tryz.prog 65) ([.slice none 0 0],1,24):=⟨by kernel_rfl⟩
instance T.elt_112:Has (a8r Tryz.prog 112) (65,1):=⟨by kernel_rfl⟩
instance T.ty_112:Has (tyK Tryz.prog 112) (false,1):=⟨by kernel_rfl⟩
instance T.und_112:Has (Tryz.prog.underlying 112) (.slice 65):=⟨by kernel_rfl⟩
instance T.zero_112:Has (a2t Tryz.prog 112) [.slice none 0 0]:=⟨by kernel_rfl⟩
instance T.zero_257:Has (a2t Tryz.prog 257) [.nilFunc]:=⟨by kernel_rfl⟩
instance T.zero_65:Has (a2t Tryz.prog 65) [.slice none 0 0]:=⟨by kernel_rfl⟩
theorem c7b (I:IMap) (g1 g2 g3 g4 g5 gc:Nat) (vc:Value) (c:List Kind) (hvc:RdS I vc c) (hsc:SmC c) (l:List Rep) (A:Option Addr) (c0:Nat) (hv:RdS I (.slice A l.length c0) l) (hl:l.length≤1000000) (hsl:∀r∈l,∀e∈r.options,SmE e) (ly:Nat) (J:Bool→List (List Int)→IMap→List Res→Prop) (hJm:c1M J) (hY:a5I Tryz.prog ly (fun I vs (x:List Int)=>∃v,vs=[v]∧RdS I v x) (fun _ _=>True) J) (k1:ICells I g1 0 [vc]) (k2:ICells I g2 0 [.slice A l.length c0]) (k3:ICells I g3 0 [.slice (some ⟨gc,0,none⟩) l.length l.length]) (k4:ICells I g4 0 [.func (.yield ly) #[] #[]]) (k5:ICells I g5 0 [.func (.func 191) #[] #[.pointer (some ⟨g1,0,none⟩),.pointer (some ⟨g2,0,none⟩),.pointer (some ⟨g3,0,none⟩),.pointer (some ⟨g4,0,none⟩),.pointer (some ⟨g5,0,none⟩)]]) (n:Nat):∀(I2:IMap),ILe I I2→∀(rs:List Rep),rs.length<n→∀(pre:List Int),Mid c l pre rs→∀(dn:List (List Int)) (Hq:List Res),J true dn I2 Hq →
    FnH Tryz.prog 191 #[.int .i64 ((pre.length:Nat):Int),.pointer (some ⟨g1,0,none⟩),.pointer (some ⟨g2,0,none⟩),.pointer (some ⟨g3,0,none⟩),.pointer (some ⟨g4,0,none⟩),.pointer (some ⟨g5,0,none⟩)] I2 (.blk gc 3 (a3j (pre++a2X rs))::Hq) (b1d c l J gc 3 (pre++a2X rs) pre rs dn):=by
 induction n with
 |zero=>intro _ _ rs h;exact absurd h (Nat.not_lt_zero _)
 |succ n ih=>
  intro I2 hI rs hrs pre hm dn Hq hJ;exact c9v I2 g1 g2 g3 g4 g5 gc vc c (hvc.le hI) hsc l A c0 (hv.le hI) hl hsl ly J hJm hY (k1.le hI) (k2.le hI) (k3.le hI) (k4.le hI) (k5.le hI) rs (fun I3 hI3 pr rr hlt hm3 dn3 Hq3 hJ3=>ih I3 (hI.trans hI3) rr (by omega) pr hm3 dn3 Hq3 hJ3) pre hm _ rfl dn Hq hJ
theorem c8t (I:IMap) (vc:Value) (c:List Kind) (hvc:RdS I vc c) (hsc:SmC c) (A:Option Addr) (c0:Nat) (l:List Rep) (hv:RdS I (.slice A l.length c0) l) (hl:l.length≤1000000) (hsl:∀r∈l,∀e∈r.options,SmE e) (hC:a1g c=true) (hP:∀r∈l,chs r≠0) (gl gv:Nat) (k2:ICells I gl 0 [.slice A l.length c0]) (k1:ICells I gv 0 [vc]) :
    b6M Tryz.prog 190 [.pointer (some ⟨gl,0,none⟩),.pointer (some ⟨gv,0,none⟩)] I (fun I vs (x:List Int)=>∃v,vs=[v]∧RdS I v x) (fun _ _=>True) (fun pre=>pre=a3d c l) (fun pre=>pre <+: a3d c l):=by
 intro ly J I1 Hc hI1 hJm hY hJ0
 have hvc:=hvc.le hI1
 have hv:=hv.le hI1
 have hA:=hv.toA
 have k1:=k1.le hI1
 have k2:=k2.le hI1
 refine enter Tryz.func190 Tryz.call190 rfl Tryz.ntmps190 rfl (fun w0=>?_);refine go 3 ?_;refine a0B _ rfl rfl rfl (fun g3=>?_);refine go 4 ?_;refine o_v rfl (a0K he rfl (k2 0 _ rfl)) ?_;refine go 2 ?_;refine a4D he he rfl rfl rfl (by omega) (by omega) rfl (fun g10=>?_);refine go 1 ?_;refine a0j he rfl (fun g4=>?_);refine go 1 ?_;refine a0p _ he rfl rfl rfl rfl rfl rfl ?_;refine go 5 ?_;refine a0f ?_;refine a3o (a3j (a4p l 0)) ((b2S l.length).trans (by simp[a4p,a2X])) ?_;refine o_v rfl (a0K he rfl (k2 0 _ rfl)) ?_;refine go 5 ?_
 refine a0Q (α:=Nat) 0 (fun i=>I1)
  (fun i=>[(1,.pointer (some ⟨gl,0,none⟩)),(2,.pointer (some ⟨gv,0,none⟩)),(3,.pointer (some ⟨g3,0,none⟩)),(4,.pointer (some ⟨g4,0,none⟩)),(11,.slice A l.length c0),(12,.int .i64 ((l.length:Nat):Int)),(13,.int .i64 ((i:Nat):Int))])
  (fun i=>.blk g10 3 (a3j (a4p l i)) :: .blk g4 65 [.slice (some ⟨g10,0,none⟩) l.length l.length] :: .blk g3 256 [.func (.yield ly) #[] #[]]::Hc)
  (fun i=>i≤l.length)
  (fun i=>l.length-i) (Nat.zero_le _) rfl sb rfl ?_
 intro i hi
 have hol:=b7x l hi
 refine go 6 ?_;refine cb rfl (fun h14 p14=>?_) (fun h14 p14=>?_)
 ·have hlt:i<l.length:=by omega
  refine go 7 ?_;obtain⟨b16,o16,w16,e16,c16,r16⟩:=RdA.at_ hA (i:=i) (by omega);obtain⟨q16,rfl,S16,d16,rfl,hS16,hd16,hm16⟩:=r16;refine o_v rfl (a0h he rfl rfl e16 (i) (by omega) (by omega)) ?_;refine o_v rfl (a0G he rfl c16 rfl) ?_;refine go 1 ?_;refine a0j he rfl (fun g6=>?_);refine go 2 ?_;refine a0p _ he rfl rfl rfl rfl rfl rfl ?_;refine go 6 ?_;refine a0d (a5n _ l[i] S16 d16 ⟨_,_,rfl,hS16,hd16,hm16⟩ (hsl _ (List.getElem_mem hlt))) rfl rfl ?_;refine go 3 ?_;refine cb rfl (fun h20 p20=>?_) (fun h20 p20=>?_)
  ·refine go 3 ?_;refine o_v rfl (a0h he rfl rfl rfl (i) (by omega) (by omega)) ?_;refine go 1 ?_;refine a0f ?_;refine a2f he rfl rfl rfl (by rw[a9s,Nat.blt_eq];omega) ?_;refine a3o (a3j ((a4p l i).set i (-1))) (by rw[Nat.zero_add,Nat.mul_one,a9t]) ?_;refine go 8 ?_;refine a0f ?_;refine a0b ?_;exact a0M (i+1) (by omega) (by omega) rfl sb (by rw[a9y hlt,if_pos (by omega)])
  ·refine go 8 ?_;refine a0b ?_;exact a0M (i+1) (by omega) (by omega) rfl sb (by rw[a9y hlt,if_neg (by omega)])
 ·obtain rfl:i=l.length:=by omega
  rw[b4z];refine go 8 ?_;refine a0j he rfl (fun g7=>?_);refine go 4 ?_;refine o_v rfl (a1i rfl rfl) ?_;refine go 1 ?_;refine a0p _ he rfl rfl rfl rfl rfl rfl ?_;refine go 3 ?_;refine a1c ?_;refine a1Q (fun Ig3 jg3 cg3=>?_)
  have hvc:=hvc.le jg3
  have hv:=hv.le jg3
  have k1:=k1.le jg3
  have k2:=k2.le jg3
  have hJ0:=hJm _ _ _ _ _ jg3 hJ0
  refine a0o ?_;refine a1Q (fun Ig4 jg4 cg4=>?_)
  have hvc:=hvc.le jg4
  have hv:=hv.le jg4
  have k1:=k1.le jg4
  have k2:=k2.le jg4
  have cg3:=cg3.le jg4
  have hJ0:=hJm _ _ _ _ _ jg4 hJ0
  refine a1Q (fun Ig7 jg7 cg7=>?_)
  have hvc:=hvc.le jg7
  have hv:=hv.le jg7
  have k1:=k1.le jg7
  have k2:=k2.le jg7
  have cg3:=cg3.le jg7
  have cg4:=cg4.le jg7
  have hJ0:=hJm _ _ _ _ _ jg7 hJ0
  refine o_v rfl (a0K he rfl (cg7 0 _ rfl)) ?_;refine go 1 ?_;refine b9R (c7b _ gv gl g4 g3 g7 g10 vc c hvc hsc l A c0 hv hl hsl ly J hJm hY k1 k2 cg4 cg3 cg7 (l.length+1) _ (ILe.refl _) l (Nat.lt_succ_self _) [] (b9L hC hP) [] Hc hJ0) rfl rfl (fun v27 I27 H27 j27 q27=>?_);obtain⟨b27,dn,Hd,rfl,rfl,hJd,hbt,hbf⟩:=q27;refine go 1 ?_;refine a6E rfl ?_;refine a0b ?_;rw[c2B]
  exact b8h b27 _ hJd (by cases b27 with
    |false=>exact hbf rfl
    |true=>exact hbt rfl)
theorem b4Q (I:IMap) (A:Option Addr) (m k:Nat) (vc:Value) :
    FnI Tryz.prog 120 #[.agg #[vc],.slice A m k] I (fun u J=>∃gl gv,u = .func (.func 190) #[] #[.pointer (some ⟨gl,0,none⟩),.pointer (some ⟨gv,0,none⟩)]∧ICells J gl 0 [.slice A m k]∧ICells J gv 0 [vc]):=by
 refine enter Tryz.func120 Tryz.call120 rfl Tryz.ntmps120 rfl (fun w0=>?_);refine go 3 ?_;refine a0B _ rfl rfl rfl (fun g2=>?_);refine go 1 ?_;refine a0B _ rfl rfl rfl (fun g3=>?_);refine go 5 ?_;refine a1Q (fun Ig3 jg3 cg3=>?_);refine a1Q (fun Ig2 jg2 cg2=>?_)
 have cg3:=(cg3).le jg2
 refine o_v rfl (a1i rfl rfl) ?_;refine go 4 ?_;refine a0s rfl rfl ?_;exact q_i ⟨_,_,rfl,cg3,cg2⟩
theorem d0C (I:IMap) (vc:Value) (c:List Kind) (hvc:RdS I vc c) (hsc:SmC c) (v:Value) (l:List Rep) (hv:RdS I v l) (hl:l.length≤1000000) (hsl:∀r∈l,∀e∈r.options,SmE e) (most:Int) :
    FnI Tryz.prog 65 #[.agg #[vc],v,.int .i64 most] I (fun u J=>∃w,u = .tuple #[w,.int .i64 (a2m c l most).2]∧RdS J w (a2m c l most).1):=by
 have hv0:=hv
 obtain⟨A,c0,rfl,hA,hc,hm⟩:=hv;refine enter Tryz.func65 Tryz.call65 rfl Tryz.ntmps65 rfl (fun w0=>?_);refine go 3 ?_;refine a0B _ rfl rfl rfl (fun g3=>?_);refine go 1 ?_;refine a0B _ rfl rfl rfl (fun g5=>?_);refine go 10 ?_;refine sxb 13 rfl (fun h13 p13=>?_) (fun h13 p13=>?_)
 ·refine go 5 ?_;refine a2M rfl ?_;refine go 8 ?_;refine a1F rfl rfl rfl ?_
  have hr:a2m c l most=([],1):=by unfold a2m;rw[if_pos (by simp;omega)]
  exact q_i ⟨_,by rw[hr],by rw[hr];exact RdS.nil'⟩
 ·refine go 5 ?_;refine cb rfl (fun h16 p16=>?_) (fun h16 p16=>?_)
  ·refine go 8 ?_;refine a1F rfl rfl rfl ?_
   have hr:a2m c l most=([],1):=by unfold a2m;rw[if_pos (by simp;omega)]
   exact q_i ⟨_,by rw[hr],by rw[hr];exact RdS.nil'⟩
  ·have hb2:1≤most∧most≤4096:=by omega
   have hb:¬(decide (most<1)||decide (4096<most))=true:=by simp;omega
   refine go 8 ?_;refine a0d (c0O _ vc c hvc hsc _ l hv0 hl hsl) rfl rfl ?_;refine go 9 ?_;refine cb rfl (fun h21 p21=>?_) (fun h21 p21=>?_)
   ·refine go 9 ?_;refine a1F rfl rfl rfl ?_
    have hr:a2m c l most=([],a7A c l):=by unfold a2m;rw[if_neg hb,if_pos p21]
    exact q_i ⟨_,by rw[hr],by rw[hr];exact RdS.nil'⟩
   ·have her:a7A c l=0:=by simpa using h21
    obtain⟨hC,hP⟩:=b5q her;refine go 5 ?_;refine a0j he rfl (fun g9=>?_);refine go 6 ?_;refine a1f 65 1 ?_;refine go 2 ?_;refine a0O (b4Q _ A _ c0 vc) rfl rfl (fun v25 I25 j25 q25=>?_)
    have hvc:=hvc.le j25
    have hv0:=hv0.le j25
    obtain⟨gl,gv,rfl,k2,k1⟩:=q25;refine go 3 ?_;refine a0o ?_;refine a0o ?_;refine a0o ?_;refine a6s (σ:=Option Addr×Nat×List Value) (ps:=[26]) (none,0,[]) (fun ⟨A9,c9,xs⟩=>[.row (.slice A9 xs.length c9) 65 1 xs.length xs,.blk g9 112 [.slice A9 xs.length c9],.blk g5 3 [.int .i64 most]]) (fun pre I ⟨A9,c9,xs⟩=>Flat I xs pre∧(pre.length:Int)<most) (fun pre I ⟨A9,c9,xs⟩ cd=>cd = .exit 0∧Flat I xs pre∧(pre.length:Int)=most) rfl Tryz.call190 (c8t _ vc c hvc hsc A c0 l hv0 hl hsl hC hP gl gv k2 k1) (fun I vs x h=>by obtain⟨w,rfl,_⟩:=h;rfl) rfl (fun pre I I' s hI h=>by obtain⟨A9,c9,xs⟩:=s;exact⟨h.1.le hI,h.2⟩) (fun pre I I' s c hI h=>by obtain⟨A9,c9,xs⟩:=s;exact⟨h.1,h.2.1.le hI,h.2.2⟩) (⟨.nil,by simp;omega⟩) rfl ?_ ?_ ?_
    ·rintro r E1 pre x vs I1 ⟨A9,c9,xs⟩ hI1 ⟨hF,hlt⟩ ⟨w,rfl,hw⟩ _
     have hw0:=hw
     obtain⟨B,cB,rfl,_,_,_⟩:=hw
     have hxl:xs.length=pre.length:=hF.len.trans (Nat.mul_one _)
     refine b4X ?_;refine go 3 ?_;refine a6A ?_;refine go 6 ?_;refine a0c he he rfl rfl rfl rfl rfl rfl rfl (fun v29=>?_);refine go 1 ?_;refine a1c ?_;refine a0v he he rfl rfl rfl rfl rfl (by omega) (by omega) rfl (fun v30=>?_);refine a2Q (fun A30 c30 hv30=>?_);subst hv30;refine go 1 ?_;refine a0N ?_;refine a0p _ he rfl rfl rfl rfl rfl rfl ?_;refine go 10 ?_;refine cb rfl (fun h34 p34=>?_) (fun h34 p34=>?_)
     ·refine go 2 ?_;refine a0o ?_;refine a0b ?_;refine a0N ?_;refine a0f ?_;refine a0o ?_;refine a0N ?_;refine a0N ?_;exact c9n ((A30,c30,xs++[.slice B x.length cB])) (hI1) (⟨rfl,hF.append (.one ⟨_,rfl,hw0⟩),by simp only[List.length_append,List.length_singleton];omega⟩) (by simp only[List.length_append,List.length_singleton];rfl)
     ·refine go 2 ?_;refine a0o ?_;refine a0b ?_;refine a0N ?_;refine a0f ?_;refine a0o ?_;refine a0N ?_;refine a0N ?_;exact a9H ((A30,c30,xs++[.slice B x.length cB])) (hI1) (⟨hF.append (.one ⟨_,rfl,hw0⟩),by simp only[List.length_append,List.length_singleton]at *;omega⟩) (by simp only[List.length_append,List.length_singleton];rfl)
    ·rintro D pre I1 ⟨A9,c9,xs⟩ hI1 hfull ⟨hF,hlt⟩
     have hxl:xs.length=pre.length:=hF.len.trans (Nat.mul_one _)
     have hpre:pre=(a3d c l).take most.toNat:=by rw[←hfull,List.take_of_length_le (by omega)]
     refine b2s ?_;refine go 10 ?_;refine cb rfl (fun h37 p37=>?_) (fun h37 p37=>?_)
     ·refine go 8 ?_;refine a5m ?_;refine a1F rfl rfl rfl ?_
      have hr:a2m c l most=([],21):=by unfold a2m;rw[if_neg hb,if_neg (by simpa using her),if_pos (by rw[←hpre];exact List.eq_nil_of_length_eq_zero (by omega))]
      exact q_i ⟨_,by rw[hr],by rw[hr];exact RdS.nil'⟩
     ·refine go 4 ?_;refine a0f ?_;refine a0l (l:=pre) rfl hxl (hF) (fun Ip jp Rp=>?_);refine go 6 ?_;refine a5m ?_;refine a1F rfl rfl rfl ?_
      have hr:a2m c l most=(pre,0):=by unfold a2m;rw[if_neg hb,if_neg (by simpa using her),←hpre,if_neg (fun e=>by rw[e,List.length_nil]at hxl;omega)]
      exact q_i ⟨_,by rw[hr],by rw[hr];exact Rp⟩
    ·rintro D pre I1 ⟨A9,c9,xs⟩ cd hI1 hpart ⟨rfl,hF,heq⟩
     have hxl:xs.length=pre.length:=hF.len.trans (Nat.mul_one _)
     have hpre:pre=(a3d c l).take most.toNat:=by rw[show most.toNat=pre.length by omega];exact List.prefix_iff_eq_take.1 hpart
     refine b2s ?_;refine go 11 ?_;refine cb rfl (fun h37 p37=>?_) (fun h37 p37=>?_)
     ·refine go 8 ?_;refine a5m ?_;refine a1F rfl rfl rfl ?_
      have hr:a2m c l most=([],21):=by unfold a2m;rw[if_neg hb,if_neg (by simpa using her),if_pos (by rw[←hpre];exact List.eq_nil_of_length_eq_zero (by omega))]
      exact q_i ⟨_,by rw[hr],by rw[hr];exact RdS.nil'⟩
     ·refine go 4 ?_;refine a0f ?_;refine a0l (l:=pre) rfl hxl (hF) (fun Ip jp Rp=>?_);refine go 6 ?_;refine a5m ?_;refine a1F rfl rfl rfl ?_
      have hr:a2m c l most=(pre,0):=by unfold a2m;rw[if_neg hb,if_neg (by simpa using her),←hpre,if_neg (fun e=>by rw[e,List.length_nil]at hxl;omega)]
      exact q_i ⟨_,by rw[hr],by rw[hr];exact Rp⟩
end Go.Proofs.YtdapmfkbpnjkmaaGreat
set_option linter.all false
namespace Go.Sx
open Go
section
variable {P:Program} {n:Sz} {E:Ent} {I:IMap} {L:LL} {H:List Res} {d ty t1 t2:Nat} {pos:String} {af:Array Edge} {x y:Operand} {a b:Int}
theorem c7z (hx:ev L x=some (.int .i64 a)) (hy:ev L y=some (.int .i64 b)):OV P n E I L H ⟨some d,.call { callee:=.builtin .max,args:=#[x,y],argTypes:=#[t1,t2] },ty,pos,af,none⟩ (.int .i64 (if b>a then b else a)):=
 (fun a w st _=>by simp[execOp,st.ev hx,st.ev hy,resolve,invoke,builtin,Builtin.max_,Builtin.max2])
theorem c9B (hx:ev L x=some (.int .i64 a)) (hy:ev L y=some (.int .i64 b)):OV P n E I L H ⟨some d,.call { callee:=.builtin .min,args:=#[x,y],argTypes:=#[t1,t2] },ty,pos,af,none⟩ (.int .i64 (if b<a then b else a)):=
 (fun a w st _=>by simp[execOp,st.ev hx,st.ev hy,resolve,invoke,builtin,Builtin.min_,Builtin.min2])
end
def a5q (most:Int):Nat→List Rep→Nat
 |n,[]=>n
 |n,r::rs=>if ((n:Nat):Int)≤most then a5q most (n * max 1 (chs r).toNat) rs else n
theorem c1C {most:Int} {l:List Rep} {i n:Nat} (h:i<l.length) (hn:((n:Nat):Int)≤most):a5q most n (l.drop i)=a5q most (n * max 1 (chs l[i]).toNat) (l.drop (i+1)):=by
 rw[List.drop_eq_getElem_cons h,a5q,if_pos hn]
theorem c4l {most:Int} {n:Nat} (hn:¬((n:Nat):Int)≤most):∀l:List Rep,a5q most n l=n
 | []=>rfl
 |r::l=>by rw[a5q,if_neg hn]
theorem c1B {most:Int}:∀(l:List Rep) (n:Nat),((a5q most n l:Nat):Int)≤most→((n * a9X l:Nat):Int)≤most
 | [],n,h=>by simpa[a5q,a9X]using h
 |r::l,n,h=>by
  rw[a5q]at h
  split at h
  ·have h1:=c1B l _ h
   have h2:n * a9X (r::l)≤n * max 1 (chs r).toNat * a9X l:=by
    rw[a9X,←Nat.mul_assoc];exact Nat.mul_le_mul_right _ (Nat.mul_le_mul_left _ (Nat.le_max_right _ _))
   omega
  ·rename_i h1;exact absurd h h1
def b7b (l:List Rep) (n:Int):Bool:=c4J l 12&&decide (((a5q n 1 l:Nat):Int)≤n)
theorem c2l {l:List Rep} {n:Int} (h:b7b l n=true):c4J l 12=true∧((a9X l:Nat):Int)≤n:=by
 simp only[b7b,Bool.and_eq_true,decide_eq_true_eq]at h
 refine⟨h.1,?_⟩
 have:=c1B l 1 h.2
 rwa[Nat.one_mul]at this
abbrev sA:ByteArray:=⟨#[97]⟩
abbrev sB:ByteArray:=⟨#[98]⟩
abbrev sW:ByteArray:=⟨#[119]⟩
abbrev a5R:ByteArray:=⟨#[97,120,108,101]⟩
abbrev c0M:ByteArray:=⟨#[119,104,101,101,108,115,101,116]⟩
def b3E (p k:ByteArray):Evt:=⟨1,0,p,k,a0Z,a0Z,a0Z,a0Z,c7K⟩
def c1d (p:ByteArray):Evt:=⟨2,5,p,a0Z,sW,a5R,a0Z,a0Z,c7K⟩
def c7n (p:ByteArray) (n:Int):Evt:=⟨3,n,p,a0Z,a0Z,a0Z,a0Z,a0Z,c7K⟩
def sxC:List Kind:=[⟨a5R,false,[]⟩,⟨c0M,false,[⟨a5R,[a5R],1⟩]⟩]
def sxL:List Rep:=[⟨[b3E sA a5R],false⟩,⟨[b3E sB a5R],false⟩,⟨[b3E sW c0M],false⟩,⟨[c1d sA,c1d sB],false⟩,⟨[c7n sA 6],true⟩]
def sxM:List Rep:=sxL++[⟨[c7n sB 7],false⟩]
theorem b6F:SmC sxC:=by
 intro k hk
 simp only[sxC,List.mem_cons,List.not_mem_nil,or_false]at hk
 rcases hk with rfl|rfl
 ·exact⟨by decide,fun s hs=>(by cases hs)⟩
 ·refine⟨by decide,fun s hs=>?_⟩;obtain rfl:=List.mem_singleton.1 hs;refine⟨by decide,fun k hk=>?_⟩;obtain rfl:=List.mem_singleton.1 hk
  decide
theorem c9z:∀r∈sxM,∀e∈r.options,SmE e:=by
 intro r hr e he
 simp only[sxM,sxL,List.cons_append,List.nil_append,List.mem_cons,List.not_mem_nil,or_false]at hr
 rcases hr with rfl|rfl|rfl|rfl|rfl|rfl<;>simp only[List.mem_cons,List.not_mem_nil,or_false]at he
 ·subst he;exact⟨by decide,by decide,by decide,by decide,by decide,by decide⟩
 ·subst he;exact⟨by decide,by decide,by decide,by decide,by decide,by decide⟩
 ·subst he;exact⟨by decide,by decide,by decide,by decide,by decide,by decide⟩
 ·rcases he with rfl|rfl<;>exact⟨by decide,by decide,by decide,by decide,by decide,by decide⟩
 ·subst he;exact⟨by decide,by decide,by decide,by decide,by decide,by decide⟩
 ·subst he;exact⟨by decide,by decide,by decide,by decide,by decide,by decide⟩
theorem b6D:∀r∈sxL,∀e∈r.options,SmE e:=fun r hr=>c9z r (List.mem_append_left _ hr)
end Go.Sx
set_option linter.all false
namespace Go.Sx
open Go
section
variable {P:Program} {ρ:Option Nat} {n:Sz} {E:Ent} {I:IMap} {L:LL} {H:List Res} {Q:Exit→Act→World→Prop} {ops:Array Oper} {K:Act→World→Prop}
variable {α:Type} [Enc α] {d ty:Nat} {pos:String} {af:Array Edge} {x y:Operand}
theorem b1T {tt e k len:Nat} {zs cs:List Value} {ps:List (Nat×Operand)} {vs:List (Nat×Value)} (he:a8r P tt=some (e,k)) (hz:a2t P e=some zs) (hk:zs.length=k) (hk0:Nat.blt 0 k=true) (hl:Nat.ble (len * k) 16777216=true)
  (hv:evp L ps=some vs) (hf:b2L (fun i=>some (i * k,k)) vs (b5f zs len)=some cs) (hcs:cs.length=len * k) (hd:Nat.blt d n.sz=true)
  (kk:∀g,SX n E I ((d,.slice (some ⟨g,0,none⟩) len len)::L) (.blk g e cs::H) K):SX n E I L H (one P ops Q ⟨some d,.buildSlice tt len ps.toArray,ty,pos,af,none⟩ K):=
 a7N (fun g:Nat=>.slice (some ⟨g,0,none⟩) len len) (fun _=>I) (fun g=>.blk g e cs::H) (fun _=>True) hd
  (fun a w st m=>by
   obtain⟨h1,bb,h2⟩:=a5e he;obtain⟨z,h3,h4⟩:=a5r hz w
   have hparts:(ps.toArray.map fun (i,x)=>(i,a.eval x)).toList=vs:=by simpa using a8C st ps vs hv
   have hk':0<k:=by simpa[Nat.blt_eq]using hk0
   have hl':len * k≤16777216:=Nat.le_of_ble_eq_true hl
   have hlen:len≤len * k:=Nat.le_mul_of_pos_right len hk'
   have hinit:(Array.range (len * k)).map ((if len * k=0 then (#[]:Array Value) else zs.toArray)[· % (if len * k=0 then (#[]:Array Value) else zs.toArray).size]!)=(b5f zs len).toArray:=by
    by_cases h0:len * k=0
    ·have:len=0:=by
      rcases Nat.eq_zero_or_pos len with h|h
      ·exact h
      ·have:=Nat.mul_pos h hk';omega
     subst this
     simp[b5f]
    ·rw[if_neg h0];subst hk;exact a5s zs hk' len
   have hfill:=b1A _ vs (b5f zs len) cs hf
   refine⟨w.heap.size,w.alloc (.cells cs.toArray e),trivial,?_,m.alloc e cs⟩
   ·simp only[execOp,Instr.buildSlice,Sem.run_bind,run_underlying h1,Result.andThen_ok,(a1o h2 w).2]
    rw[if_neg (by omega)]
    by_cases h0:len * k=0
    ·simp only[h0,if_true]at hinit ⊢
     simp only[Sem.run_bind,Sem.run_pure,Result.andThen_ok,hparts]
     rw[hinit,hfill]
     simp[newRow]
    ·simp only[h0,if_false]at hinit ⊢
     simp only[Sem.run_bind,Sem.run_pure,Result.andThen_ok,hparts,h3,h4]
     rw[hinit,hfill]
     simp[newRow]) fun g _=>kk g
theorem Flat.rda {I:IMap} {g:Nat} {ws:List Value} {l:List α} (hF:Flat I ws l) (hc:ICells I g 0 ws):RdA I (some ⟨g,0,none⟩) l:=fun _=>
 ⟨g,0,rfl,fun i x hi=>by
  obtain⟨vs,h1,h2⟩:=hF.at_ i x hi;refine⟨vs,fun j u hu=>?_,h1⟩
  have h3:=hc _ _ (h2 j u hu)
  rw[Nat.zero_add]at h3
  rw[Nat.zero_add]
  exact h3⟩
end
end Go.Sx
namespace Go.Proofs.YtdapmfkbpnjkmaaGreat
open Go Go.Sx
set_option linter.all false
set_option maxRecDepth 20000
set_option maxHeartbeats 4000000
theorem c0y (I:IMap) (v:Value) (l:List Rep) (hv:RdS I v l) (hl:l.length≤1000000) (hsl:∀r∈l,∀e∈r.options,SmE e) (most:Int) (hmo:most≤4096) :
    FnV Tryz.prog 105 #[v,.int .i64 most] I (.int .i64 ((a5q most 1 l:Nat):Int)):=by
 obtain⟨A,c0,rfl,hA,hc,hm⟩:=hv;refine enter Tryz.func105 Tryz.call105 rfl Tryz.ntmps105 rfl (fun w0=>?_);refine go 17 ?_
 refine a1z (0) (1) (fun i n=>I)
  (fun i n=>[(0,.slice A l.length c0),(1,.int .i64 most),(5,.int .i64 ((n:Nat):Int)),(6,.int .i64 ((i:Nat):Int))])
  (fun i n=>[])
  (fun i n=>i≤l.length∧n≤1000000∧a5q most 1 l=a5q most n (l.drop i))
  (fun i n=>l.length-i) ⟨Nat.zero_le _,by omega,rfl⟩ rfl sb rfl ?_
 intro i n ⟨hi,hn,hw⟩;refine go 8 ?_;refine sxb 11 rfl (fun h11 p11=>?_) (fun h11 p11=>?_)
 ·refine go 6 ?_;refine cb rfl (fun h15 p15=>?_) (fun h15 p15=>?_)
  ·have hlt:i<l.length:=by omega
   have hnm:((n:Nat):Int)≤most:=by omega
   have hc5:=b1r l[i]
   have hcn:=b5n l[i]
   have hpn:n * max 1 (chs l[i]).toNat≤4096 * 5:=Nat.mul_le_mul (by omega) (by omega)
   have hpi:(n:Int) * ((max 1 (chs l[i]).toNat:Nat):Int)=((n * max 1 (chs l[i]).toNat:Nat):Int):=(Int.natCast_mul _ _).symm
   generalize hmx:max 1 (chs l[i]).toNat=mx at hpn hpi
   refine go 8 ?_;obtain⟨b21,o21,w21,e21,c21,r21⟩:=RdA.at_ hA (i:=i) (by omega);obtain⟨q21,rfl,S21,d21,rfl,hS21,hd21,hm21⟩:=r21;refine o_v rfl (a0h he rfl rfl e21 (i) (by omega) (by omega)) ?_;refine o_v rfl (a0G he rfl c21 rfl) ?_;refine go 1 ?_;refine a0d (a4V _ l[i] S21 d21 ⟨_,_,rfl,hS21,hd21,hm21⟩ (hsl _ (List.getElem_mem hlt))) rfl rfl ?_;refine o_v rfl (OV.cast (u:=.int .i64 ((mx:Nat):Int)) (c7z rfl rfl) (congrArg (Value.int .i64) (by split<;>omega))) ?_;refine o_v rfl (OV.cast (u:=.int .i64 ((n * mx:Nat):Int)) (b5b rfl rfl ⟨by omega,by omega⟩) (congrArg (Value.int .i64) (by rw[hpi]))) ?_;refine go 10 ?_;exact a0X (i+1) (n * mx) ⟨by omega,by omega,by rw[hw,c1C hlt (by omega),hmx]⟩ (by omega) rfl sb rfl
  ·refine go 12 ?_;refine a0s rfl rfl ?_;exact q_v (congrArg (Value.int .i64) (by rw[hw,c4l (by omega)]))
 ·refine go 6 ?_;refine a0T rfl ?_;refine go 12 ?_;refine a0s rfl rfl ?_;obtain rfl:i=l.length:=by omega
  exact q_v (congrArg (Value.int .i64) (by rw[hw,List.drop_length];rfl))
theorem c3u (I:IMap) (v:Value) (l:List Rep) (hv:RdS I v l) (most:Int) (hmo:most≤4096) :
    FnV Tryz.prog 52 #[v,.int .i64 most] I (.bool (b7b l most)):=by
 refine enter Tryz.func52 Tryz.call52 rfl Tryz.ntmps52 rfl (fun w0=>?_);refine go 9 ?_;refine a0d (c3r _ v l hv 12) rfl rfl ?_;refine go 1 ?_;refine sxb 7 rfl (fun h7 p7=>?_) (fun h7 p7=>?_)
 ·refine go 3 ?_;refine a0R rfl rfl h7 (a0d (c0y _ v l hv (by have:=(b4i h7).2;omega) (b4i h7).1 most hmo) rfl rfl ?_);refine go 7 ?_;refine a0s rfl rfl ?_;exact q_v (congrArg Value.bool (by simp only[b7b,h7,bS]))
 ·refine go 10 ?_;refine a0s rfl rfl ?_;exact q_v (congrArg Value.bool (by simp only[b7b,h7,bS]))
end Go.Proofs.YtdapmfkbpnjkmaaGreat
set_option linter.all false
namespace Go.Sx
open Go
def b2C (l:List Rep) (ch:List Int):Bool:=decide (((l.length:Nat):Int)=(ch.length:Nat))&&a6F okK l ch l.length
theorem a2Y (l:List Rep) (ch:List Int):a1L l ch=if b2C l ch=true then (a2U l ch l.length,0) else ([],1):=rfl
theorem b3V {l:List Rep} {ch:List Int} (h:b2C l ch=true):ch.length=l.length:=by
 simp only[b2C,Bool.and_eq_true,decide_eq_true_eq]at h;omega
theorem b8q {l:List Rep} {ch:List Int} (h:b2C l ch=true) {i:Nat} (h1:i<l.length) (h2:i<ch.length):0≤ch[i]∧ch[i]<chs l[i]:=by
 simp only[b2C,Bool.and_eq_true]at h
 have:=b1f h.2 h1 h1 h2
 simp only[okK,Bool.not_eq_true',Bool.or_eq_false_iff,decide_eq_false_iff_not]at this
 omega
theorem b9m {c:List Kind} {l:List Rep} (h:c1J c l=true):a1g c=true∧∀r∈l,a0w r=true:=by
 simp only[c1J,Bool.and_eq_true]at h
 exact⟨h.1,fun r hr=>by obtain⟨_,h1⟩:=a3X h.2 hr;exact h1⟩
theorem b9l (c:List Kind) (l:List Rep) (ch:List Int):(c1J c l&&b2C l ch)=a1E c l ch 0:=by
 cases hg:c1J c l with
 |false=>rw[c5V hg];rfl
 |true=>
  obtain⟨hc,hv⟩:=b9m hg;rw[Bool.true_and,Bool.eq_iff_iff]
  constructor
  ·intro h;refine a6X hc (b3V h) fun i h1 h2=>?_
   have:=b8q h h1 h2
   have:=b8D (hv _ (List.getElem_mem h1))
   omega
  ·intro h
   have hl:=(a2g h).1
   simp only[b2C,Bool.and_eq_true,decide_eq_true_eq]
   refine⟨by omega,b1g (fun i h1 h2=>?_) hl⟩
   have:=a5Z h h1 h2
   simp only[okK,Bool.not_eq_true',Bool.or_eq_false_iff,decide_eq_false_iff_not]
   omega
theorem b8X {l:List Rep} {ch:List Int} (ha:b2C l ch=true) (hv:∀r∈l,a0w r=true):a2U l ch l.length=b0k 40001 l ch:=by
 have hl:=b3V ha
 rw[←b6c hl hv]
 have key:∀n,n≤l.length→a2U l ch n=(a3f 40001 l ch n).map Pkd.e:=by
  intro n
  induction n with
  |zero=>intro _;rfl
  |succ n ih=>
   intro hn
   have h1:n<l.length:=by omega
   have h2:n<ch.length:=by omega
   rw[b1z,a5l,List.map_append,ih (by omega)]
   congr 1
   have h3:=b8q ha h1 h2
   rw[b1x h1 h2,pkd,a2K h1 h2]
   cases hq:l[n].options[ch[n].toNat]? with
   |none=>simp[a3L,h3,hq]
   |some e=>
    have hd:=a8a (a3a (hv _ (List.getElem_mem h1)) e (List.mem_of_getElem? hq))
    simp[a3L,h3,hq,show e.day<40001 by omega,hd]
 exact key _ (Nat.le_refl _)
theorem c9p {c:List Kind} {l:List Rep} {ch:List Int} (hg:c1J c l=true) (ha:b2C l ch=true):decide ((a7U c (a1L l ch).1).2.2=0)=isF c l ch:=by
 have h:a1E c l ch 0=true:=by rw[←b9l,hg,ha];rfl
 rw[c8A h,a2Y,if_pos ha,a7U,if_neg (by rw[(b9m hg).1];decide),←c0I,b8X ha (b9m hg).2]
theorem c0A {c:List Kind} {l:List Rep} {ch:List Int} (h:(c1J c l&&b2C l ch)=false):isF c l ch=false:=by
 rw[b9l]at h;exact c8B h
theorem c8m {l:List Rep} {ch:List Int} {n:Nat} {e:Evt} (hsl:∀r∈l,∀e∈r.options,SmE e) (h:e∈a2U l ch n):SmE e:=by
 rw[a2U,List.mem_filterMap]at h
 obtain⟨i,_,h⟩:=h;unfold c4H at2 at h
 split at h
 ·rename_i r k h1 h2
  exact hsl r (List.mem_of_getElem? h1) e (List.mem_of_getElem? (by simpa using h))
 ·simp at h
end Go.Sx
set_option linter.all false
namespace Go.Sx
open Go
def a2J:List Rep→List Int→List Int×Bool
 |r::l,x::t=>if (a2J l t).2=true then (x::(a2J l t).1,true) else if x+1<chs r then ((x+1)::(a2J l t).1,true) else (0::(a2J l t).1,false)
 |_,_=>([],false)
def a3A (n:Nat):List Int:=List.replicate n 0
structure Chn (l:List Rep) (xs:List (List Int)):Prop where
 pos:0<xs.length
 first:xs[0]? = some (a3A l.length)
 step:∀k (h:k+1<xs.length),a2J l xs[k]=(xs[k+1],true)
 last:∀(h:xs.length-1<xs.length),a2J l xs[xs.length-1]=(a3A l.length,false)
theorem c2x {α:Type} {xs:List α} {n m:Nat} (f:Nat→α→List Int) (hm:xs.length=m):∀{q i:Nat} (hq:q<n) (hi:i<m),((List.range n).flatMap fun k=>xs.map (f k))[q * m+i]? = (xs[i]?).map (f q):=by
 induction n with
 |zero=>intro q i hq;omega
 |succ n ih=>
  intro q i hq hi;rw[List.range_succ,List.flatMap_append]
  have hlen:((List.range n).flatMap fun k=>xs.map (f k)).length=n * m:=by
   rw[List.length_flatMap]
   simp only[List.length_map,hm]
   rw[List.map_const',List.sum_replicate_nat,List.length_range]
  by_cases h:q<n
  ·rw[List.getElem?_append_left (by
    rw[hlen]
    have:(q+1) * m≤n * m:=Nat.mul_le_mul_right _ h
    rw[Nat.add_mul]at this;omega)]
   exact ih h hi
  ·obtain rfl:q=n:=by omega
   rw[List.getElem?_append_right (by rw[hlen];omega),hlen]
   simp
theorem b3R:∀{l:List Rep},(∀r∈l,1≤chs r)→Chn l (a2b l)
 | [],_=>⟨by simp[a2b],rfl,fun k h=>by simp[a2b]at h,fun h=>rfl⟩
 |r::l,hp=>by
  have ih:=b3R (l:=l) fun x hx=>hp x (List.mem_cons_of_mem _ hx)
  have hr:=hp r (by simp)
  obtain⟨m,hm⟩:∃m,(a2b l).length=m:=⟨_,rfl⟩;obtain⟨n,hn⟩:∃n,(chs r).toNat=n:=⟨_,rfl⟩
  have hm0:0<m:=by rw[←hm];exact ih.pos
  have hlen:(a2b (r::l)).length=n * m:=by rw[b3S,a9X,hn,←b3S,hm]
  have hat:∀{q i:Nat} (hq:q<n) (hi:i<m),(a2b (r::l))[q * m+i]? = ((a2b l)[i]?).map fun t=>(q:Int)::t:=fun hq hi=>by
   rw[a2b,hn];exact c2x (fun (k:Nat) t=>(k:Int)::t) hm hq hi
  have hn0:0<n:=by omega
  have hge:∀{k:Nat} (h:k<(a2b (r::l)).length),∃(q i:Nat) (hq:q<n) (hi:i<(a2b l).length),k=q * m+i∧(a2b (r::l))[k]=(q:Int)::(a2b l)[i]:=fun {k} h=>by
   rw[hlen]at h
   have hq:k / m<n:=(Nat.div_lt_iff_lt_mul hm0).2 h
   have hi:k % m<m:=Nat.mod_lt _ hm0
   have he:k=k / m * m+k % m:=by rw[Nat.mul_comm];exact (Nat.div_add_mod k m).symm
   refine⟨k / m,k % m,hq,by rw[hm];exact hi,he,?_⟩
   have h1:=hat hq hi
   rw[←he,List.getElem?_eq_getElem (by rw[hlen];exact h),List.getElem?_eq_getElem (by rw[hm];exact hi)]at h1
   exact Option.some.inj h1
  refine⟨by rw[hlen];exact Nat.mul_pos hn0 hm0,?_,fun k h=>?_,fun h=>?_⟩
  ·have:=hat hn0 hm0
   rw[Nat.zero_mul,Nat.zero_add,ih.first]at this
   rw[this];simp[a3A,List.replicate_succ]
  ·obtain⟨q,i,hq,hi,hk,e1⟩:=hge (k:=k) (by omega);rw[e1]
   simp only[a2J]
   rw[hm]at hi
   by_cases hl:i+1<m
   ·have e2:=ih.step i (by rw[hm];exact hl)
    rw[e2]
    simp only[if_true]
    have h3:=hat hq hl
    rw[show q * m+(i+1)=k+1 by omega,List.getElem?_eq_getElem h,List.getElem?_eq_getElem (by rw[hm];exact hl)]at h3
    rw[Option.some.inj h3]
   ·have hi1:i=m-1:=by omega
    have e2:a2J l ((a2b l)[i]'(by rw[hm];exact hi))=(a3A l.length,false):=by
     have:=ih.last (by omega)
     simp only[hm]at this
     subst hi1;exact this
    rw[e2];rw[hlen]at h
    have hq1:q+1<n:=by
     rcases Nat.lt_or_ge (q+1) n with h1|h1
     ·exact h1
     ·have:n * m≤(q+1) * m:=Nat.mul_le_mul_right _ h1
      rw[Nat.add_mul]at this;omega
    have h3:=hat hq1 hm0
    rw[show (q+1) * m+0=k+1 by rw[Nat.add_mul];omega,List.getElem?_eq_getElem (by rw[hlen];exact h),ih.first]at h3
    rw[Option.some.inj h3];rw[if_neg (show ¬(false=true) by decide),if_pos (by omega)]
    simp
  ·obtain⟨q,i,hq,hi,hk,e1⟩:=hge h;rw[e1];rw[hm]at hi
   rw[hlen]at hk
   have hqm:q+1=n:=by
    rcases Nat.lt_or_ge (q+1) n with h1|h1
    ·have h2:(q+2) * m≤n * m:=Nat.mul_le_mul_right _ h1
     rw[Nat.add_mul]at h2;omega
    ·omega
   have hi1:i=m-1:=by
    subst hqm;rw[Nat.add_mul]at hk;omega
   have e2:a2J l ((a2b l)[i]'(by rw[hm];exact hi))=(a3A l.length,false):=by
    have:=ih.last (by omega)
    simp only[hm]at this
    subst hi1;exact this
   simp only[a2J]
   rw[e2,if_neg (show ¬(false=true) by decide),if_neg (by omega)]
   simp[a3A,List.replicate_succ]
end Go.Sx
set_option linter.all false
namespace Go.Sx
open Go
section
variable {P:Program} {ρ:Option Nat} {n:Sz} {E:Ent} {I I':IMap} {L:LL} {H:List Res} {K:Act→World→Prop} {Q:Exit→Act→World→Prop} {N:Act→World→Prop}
variable {α β γ δ ε ζ η θ:Type}
def c4s (n:Sz) (E:Ent) (Ix:α→β→γ→δ→ε→ζ→IMap) (Lx:α→β→γ→δ→ε→ζ→LL) (Hx:α→β→γ→δ→ε→ζ→List Res) (p:α→β→γ→δ→ε→ζ→Prop) (μ:α→β→γ→δ→ε→ζ→Nat) (x0:α) (x1:β) (x2:γ) (x3:δ) (x4:ε) (x5:ζ):Act→World→Prop:=
 fun a w=>∃y0 y1 y2 y3 y4 y5,p y0 y1 y2 y3 y4 y5∧μ y0 y1 y2 y3 y4 y5<μ x0 x1 x2 x3 x4 x5∧St n a (Lx y0 y1 y2 y3 y4 y5)∧Mem E (Ix y0 y1 y2 y3 y4 y5) (Hx y0 y1 y2 y3 y4 y5) w
theorem c5x (a0:α) (a1:β) (a2:γ) (a3:δ) (a4:ε) (a5:ζ) (Ix:α→β→γ→δ→ε→ζ→IMap) (Lx:α→β→γ→δ→ε→ζ→LL) (Hx:α→β→γ→δ→ε→ζ→List Res) (p:α→β→γ→δ→ε→ζ→Prop) (μ:α→β→γ→δ→ε→ζ→Nat) {c:Code}
  (h0:p a0 a1 a2 a3 a4 a5) (hI:Ix a0 a1 a2 a3 a4 a5=I) (hL:Sub (Lx a0 a1 a2 a3 a4 a5) L) (hH:Hx a0 a1 a2 a3 a4 a5=H)
  (round:∀x0 x1 x2 x3 x4 x5,p x0 x1 x2 x3 x4 x5→SX n E (Ix x0 x1 x2 x3 x4 x5) (Lx x0 x1 x2 x3 x4 x5) (Hx x0 x1 x2 x3 x4 x5) (c.wq ρ P (Exit.then (c4s n E Ix Lx Hx p μ x0 x1 x2 x3 x4 x5) Q))):SX n E I L H ((Code.loop c).wq ρ P Q):=
 a0Q (α:=α×β×γ×δ×ε×ζ) (a0,a1,a2,a3,a4,a5) (fun q=>Ix q.1 q.2.1 q.2.2.1 q.2.2.2.1 q.2.2.2.2.1 q.2.2.2.2.2) (fun q=>Lx q.1 q.2.1 q.2.2.1 q.2.2.2.1 q.2.2.2.2.1 q.2.2.2.2.2) (fun q=>Hx q.1 q.2.1 q.2.2.1 q.2.2.2.1 q.2.2.2.2.1 q.2.2.2.2.2) (fun q=>p q.1 q.2.1 q.2.2.1 q.2.2.2.1 q.2.2.2.2.1 q.2.2.2.2.2) (fun q=>μ q.1 q.2.1 q.2.2.1 q.2.2.2.1 q.2.2.2.2.1 q.2.2.2.2.2) h0 hI hL hH
  fun ⟨x0,x1,x2,x3,x4,x5⟩ hp=>b2t (round x0 x1 x2 x3 x4 x5 hp) fun a w h=>a4s (fun e a w q=>by
   cases e with
   |normal=>obtain⟨y0,y1,y2,y3,y4,y5,h1,h2,h3,h4⟩:=q;exact⟨(y0,y1,y2,y3,y4,y5),h1,h2,h3,h4⟩
   |_=>exact q) h
theorem c6J {Ix:α→β→γ→δ→ε→ζ→IMap} {Lx:α→β→γ→δ→ε→ζ→LL} {Hx:α→β→γ→δ→ε→ζ→List Res} {p:α→β→γ→δ→ε→ζ→Prop} {μ:α→β→γ→δ→ε→ζ→Nat} {x0:α} {x1:β} {x2:γ} {x3:δ} {x4:ε} {x5:ζ} (y0:α) (y1:β) (y2:γ) (y3:δ) (y4:ε) (y5:ζ) (hp:p y0 y1 y2 y3 y4 y5) (hμ:μ y0 y1 y2 y3 y4 y5<μ x0 x1 x2 x3 x4 x5)
  (hI:Ix y0 y1 y2 y3 y4 y5=I) (hL:Sub (Lx y0 y1 y2 y3 y4 y5) L) (hH:Hx y0 y1 y2 y3 y4 y5=H):SX n E I L H (c4s n E Ix Lx Hx p μ x0 x1 x2 x3 x4 x5):=
 fun a w s m=>⟨y0,y1,y2,y3,y4,y5,hp,hμ,s.sub hL,by rw[hI,hH];exact m⟩
def c4t (n:Sz) (E:Ent) (Ix:α→β→γ→δ→ε→ζ→η→θ→IMap) (Lx:α→β→γ→δ→ε→ζ→η→θ→LL) (Hx:α→β→γ→δ→ε→ζ→η→θ→List Res) (p:α→β→γ→δ→ε→ζ→η→θ→Prop) (μ:α→β→γ→δ→ε→ζ→η→θ→Nat) (x0:α) (x1:β) (x2:γ) (x3:δ) (x4:ε) (x5:ζ) (x6:η) (x7:θ):Act→World→Prop:=
 fun a w=>∃y0 y1 y2 y3 y4 y5 y6 y7,p y0 y1 y2 y3 y4 y5 y6 y7∧μ y0 y1 y2 y3 y4 y5 y6 y7<μ x0 x1 x2 x3 x4 x5 x6 x7∧St n a (Lx y0 y1 y2 y3 y4 y5 y6 y7)∧Mem E (Ix y0 y1 y2 y3 y4 y5 y6 y7) (Hx y0 y1 y2 y3 y4 y5 y6 y7) w
theorem c5y (a0:α) (a1:β) (a2:γ) (a3:δ) (a4:ε) (a5:ζ) (a6:η) (a7:θ) (Ix:α→β→γ→δ→ε→ζ→η→θ→IMap) (Lx:α→β→γ→δ→ε→ζ→η→θ→LL) (Hx:α→β→γ→δ→ε→ζ→η→θ→List Res) (p:α→β→γ→δ→ε→ζ→η→θ→Prop) (μ:α→β→γ→δ→ε→ζ→η→θ→Nat) {c:Code}
  (h0:p a0 a1 a2 a3 a4 a5 a6 a7) (hI:Ix a0 a1 a2 a3 a4 a5 a6 a7=I) (hL:Sub (Lx a0 a1 a2 a3 a4 a5 a6 a7) L) (hH:Hx a0 a1 a2 a3 a4 a5 a6 a7=H)
  (round:∀x0 x1 x2 x3 x4 x5 x6 x7,p x0 x1 x2 x3 x4 x5 x6 x7→SX n E (Ix x0 x1 x2 x3 x4 x5 x6 x7) (Lx x0 x1 x2 x3 x4 x5 x6 x7) (Hx x0 x1 x2 x3 x4 x5 x6 x7) (c.wq ρ P (Exit.then (c4t n E Ix Lx Hx p μ x0 x1 x2 x3 x4 x5 x6 x7) Q))):SX n E I L H ((Code.loop c).wq ρ P Q):=
 a0Q (α:=α×β×γ×δ×ε×ζ×η×θ) (a0,a1,a2,a3,a4,a5,a6,a7) (fun q=>Ix q.1 q.2.1 q.2.2.1 q.2.2.2.1 q.2.2.2.2.1 q.2.2.2.2.2.1 q.2.2.2.2.2.2.1 q.2.2.2.2.2.2.2) (fun q=>Lx q.1 q.2.1 q.2.2.1 q.2.2.2.1 q.2.2.2.2.1 q.2.2.2.2.2.1 q.2.2.2.2.2.2.1 q.2.2.2.2.2.2.2) (fun q=>Hx q.1 q.2.1 q.2.2.1 q.2.2.2.1 q.2.2.2.2.1 q.2.2.2.2.2.1 q.2.2.2.2.2.2.1 q.2.2.2.2.2.2.2) (fun q=>p q.1 q.2.1 q.2.2.1 q.2.2.2.1 q.2.2.2.2.1 q.2.2.2.2.2.1 q.2.2.2.2.2.2.1 q.2.2.2.2.2.2.2) (fun q=>μ q.1 q.2.1 q.2.2.1 q.2.2.2.1 q.2.2.2.2.1 q.2.2.2.2.2.1 q.2.2.2.2.2.2.1 q.2.2.2.2.2.2.2) h0 hI hL hH
  fun ⟨x0,x1,x2,x3,x4,x5,x6,x7⟩ hp=>b2t (round x0 x1 x2 x3 x4 x5 x6 x7 hp) fun a w h=>a4s (fun e a w q=>by
   cases e with
   |normal=>obtain⟨y0,y1,y2,y3,y4,y5,y6,y7,h1,h2,h3,h4⟩:=q;exact⟨(y0,y1,y2,y3,y4,y5,y6,y7),h1,h2,h3,h4⟩
   |_=>exact q) h
theorem c0r {Ix:α→β→γ→δ→ε→ζ→η→θ→IMap} {Lx:α→β→γ→δ→ε→ζ→η→θ→LL} {Hx:α→β→γ→δ→ε→ζ→η→θ→List Res} {p:α→β→γ→δ→ε→ζ→η→θ→Prop} {μ:α→β→γ→δ→ε→ζ→η→θ→Nat} {x0:α} {x1:β} {x2:γ} {x3:δ} {x4:ε} {x5:ζ} {x6:η} {x7:θ} (y0:α) (y1:β) (y2:γ) (y3:δ) (y4:ε) (y5:ζ) (y6:η) (y7:θ) (hp:p y0 y1 y2 y3 y4 y5 y6 y7) (hμ:μ y0 y1 y2 y3 y4 y5 y6 y7<μ x0 x1 x2 x3 x4 x5 x6 x7)
  (hI:Ix y0 y1 y2 y3 y4 y5 y6 y7=I) (hL:Sub (Lx y0 y1 y2 y3 y4 y5 y6 y7) L) (hH:Hx y0 y1 y2 y3 y4 y5 y6 y7=H):SX n E I L H (c4t n E Ix Lx Hx p μ x0 x1 x2 x3 x4 x5 x6 x7):=
 fun a w s m=>⟨y0,y1,y2,y3,y4,y5,y6,y7,hp,hμ,s.sub hL,by rw[hI,hH];exact m⟩
end
end Go.Sx
set_option linter.all false
namespace Go.Sx
open Go
theorem c8n {I:IMap} {xss rest:List (List Value)} {l:List Int} (h:FlatC I xss l) {i:Nat} (hi:i<l.length):(xss++rest)[i]? = some [ci l[i]]:=by
 obtain⟨c,h1,h2⟩:=h.at_ hi;obtain⟨h3,h4⟩:=List.getElem?_eq_some_iff.1 h1;rw[List.getElem?_append_left h3,h1,show c=[ci l[i]] from h2]
section
variable {X:List (List Int)} {i k j:Nat}
end
end Go.Sx
set_option linter.all false
namespace Go.Sx
open Go
theorem b2Z:∀{k:Nat} {l:List Rep} {t s:List Int},k≤l.length→k≤t.length→a2J (l.drop k) (t.drop k)=(s,true)→a2J l t=(t.take k++s,true)
 |0,l,t,s,_,_,h=>by simpa using h
 |k+1,[],t,s,h1,_,_=>by simp at h1
 |k+1,r::l,[],s,_,h2,_=>by simp at h2
 |k+1,r::l,x::t,s,h1,h2,h=>by
  have ih:=b2Z (k:=k) (l:=l) (t:=t) (s:=s) (by simpa using h1) (by simpa using h2) (by simpa using h)
  simp only[a2J,ih,if_true,List.take_succ_cons,List.cons_append]
section
variable {l:List Rep} {t m:List Int} {j:Nat}
theorem b3a (hj:0<j) (h1:j≤l.length) (h2:t.length=l.length) (h:a2J (l.drop j) (t.drop j)=(a3A (l.length-j),false)) :
  a2J (l.drop (j-1)) (t.drop (j-1))=if t[j-1]+1<chs l[j-1] then ((t[j-1]+1)::a3A (l.length-j),true) else (a3A (l.length-(j-1)),false):=by
 obtain⟨i,rfl⟩:∃i,j=i+1:=⟨j-1,by omega⟩
 simp only[Nat.add_sub_cancel]
 rw[List.drop_eq_getElem_cons (show i<l.length by omega),List.drop_eq_getElem_cons (show i<t.length by omega)]
 simp only[a2J,h,Bool.false_eq_true,if_false]
 split
 ·rfl
 ·rw[show l.length-i=(l.length-(i+1))+1 by omega];simp[a3A,List.replicate_succ]
theorem c8J (hm:m=t.take j++a3A (l.length-j)) (hj:0<j) (h1:j≤l.length) (h2:t.length=l.length):∃h:j-1<m.length,m[j-1]=t[j-1]:=by
 subst hm
 have h3:j-1<(t.take j).length:=by rw[List.length_take];omega
 exact⟨by rw[List.length_append];omega,by rw[List.getElem_append_left h3,List.getElem_take]⟩
theorem b9K (hm:m=t.take j++a3A (l.length-j)) (hj:0<j) (h1:j≤l.length) (h2:t.length=l.length) (x:Int):m.set (j-1) x=t.take (j-1)++x::a3A (l.length-j):=by
 subst hm
 have h3:(t.take (j-1)).length=j-1:=by rw[List.length_take];omega
 have e:t.take j=t.take (j-1)++[t[j-1]]:=by
  have:=a0i (l:=t) (i:=j-1) (by omega)
  rw[show j-1+1=j by omega]at this
  exact this.symm
 rw[e,List.append_assoc,List.set_append_right _ _ (by omega),h3,Nat.sub_self];rfl
theorem b5U (hm:m=t.take j++a3A (l.length-j)) (hj:0<j) (h1:j≤l.length) (h2:t.length=l.length) (h:a2J (l.drop j) (t.drop j)=(a3A (l.length-j),false)) (hlt:t[j-1]+1<chs l[j-1]):a2J l t=(m.set (j-1) (t[j-1]+1),true):=by
 rw[b9K hm hj h1 h2]
 have:=b3a hj h1 h2 h
 rw[if_pos hlt]at this
 exact b2Z (by omega) (by omega) this
theorem b9O (hm:m=t.take j++a3A (l.length-j)) (hj:0<j) (h1:j≤l.length) (h2:t.length=l.length) (h:a2J (l.drop j) (t.drop j)=(a3A (l.length-j),false)) (hlt:¬t[j-1]+1<chs l[j-1]) :
  m.set (j-1) 0=t.take (j-1)++a3A (l.length-(j-1))∧a2J (l.drop (j-1)) (t.drop (j-1))=(a3A (l.length-(j-1)),false):=by
 have:=b3a hj h1 h2 h
 rw[if_neg hlt]at this
 refine⟨?_,this⟩;rw[b9K hm hj h1 h2,show l.length-(j-1)=(l.length-j)+1 by omega];simp[a3A,List.replicate_succ]
end
structure Evy (c:List Kind) (l:List Rep) (most:Int) (k:Nat) (b:Bool) (ch:List Int) (out:List (List Int)):Prop where
 is:out=((a2b l).take k).filter (isF c l)
 le:(out.length:Int)≤most
 at_:(b=true∧∃h:k<(a2b l).length,ch=(a2b l)[k])∨(b=false∧k=(a2b l).length)
section
variable {c:List Kind} {l:List Rep} {most:Int} {k:Nat} {b:Bool} {ch:List Int} {out:List (List Int)}
theorem c0o (hp:∀r∈l,chs r≠0):∀r∈l,1≤chs r:=fun r hr=>by have:=hp r hr;have:=b5n r;omega
theorem Evy.start (hp:∀r∈l,chs r≠0) (h:1≤most):Evy c l most 0 true (a3A l.length) []:=by
 have hC:=b3R (c0o hp)
 refine⟨rfl,by simp;omega,.inl ⟨rfl,hC.pos,?_⟩⟩
 have:=hC.first
 rw[List.getElem?_eq_getElem hC.pos]at this
 exact (Option.some.inj this).symm
theorem Evy.mem (h:Evy c l most k true ch out):ch∈a2b l:=by
 rcases h.at_ with ⟨_,h1,rfl⟩|⟨h1,_⟩
 ·exact List.getElem_mem h1
 ·cases h1
theorem Evy.lt (h:Evy c l most k true ch out):k<(a2b l).length:=by
 rcases h.at_ with ⟨_,h1,_⟩|⟨h1,_⟩
 ·exact h1
 ·cases h1
theorem Evy.next_at (hp:∀r∈l,chs r≠0) (h:Evy c l most k true ch out):((a2J l ch).2=true∧∃h:k+1<(a2b l).length,(a2J l ch).1=(a2b l)[k+1])∨((a2J l ch).2=false∧k+1=(a2b l).length):=by
 have hC:=b3R (c0o hp)
 rcases h.at_ with ⟨_,h1,rfl⟩|⟨h1,_⟩
 ·rcases Nat.lt_or_ge (k+1) (a2b l).length with h2|h2
  ·have:=hC.step k h2
   exact .inl ⟨by rw[this],h2,by rw[this]⟩
  ·obtain rfl:k=(a2b l).length-1:=by omega
   have:=hC.last (by omega)
   exact .inr ⟨by rw[this],by omega⟩
 ·cases h1
theorem Evy.yes (hp:∀r∈l,chs r≠0) (h:Evy c l most k true ch out) (hl:(out.length:Int)<most) (hi:isF c l ch=true):Evy c l most (k+1) (a2J l ch).2 (a2J l ch).1 (out++[ch]):=by
 refine⟨?_,by simp;omega,h.next_at hp⟩
 obtain⟨h1,rfl⟩:∃h:k<(a2b l).length,ch=(a2b l)[k]:=by
  rcases h.at_ with ⟨_,h1⟩|⟨h1,_⟩
  ·exact h1
  ·cases h1
 rw[←a0i h1,List.filter_append,h.is];simp[hi]
theorem Evy.no (hp:∀r∈l,chs r≠0) (h:Evy c l most k true ch out) (hi:isF c l ch=false):Evy c l most (k+1) (a2J l ch).2 (a2J l ch).1 out:=by
 refine⟨?_,h.le,h.next_at hp⟩
 obtain⟨h1,rfl⟩:∃h:k<(a2b l).length,ch=(a2b l)[k]:=by
  rcases h.at_ with ⟨_,h1⟩|⟨h1,_⟩
  ·exact h1
  ·cases h1
 rw[←a0i h1,List.filter_append,h.is];simp[hi]
theorem Evy.end_ (h:Evy c l most k b ch out) (hb:b=true→¬(out.length:Int)<most) (h1:1≤most):out=(a3d c l).take most.toNat:=by
 have hpre:out <+: a3d c l:=by
  rw[h.is];unfold a3d;exact (List.take_prefix _ _).filter _
 rcases h.at_ with ⟨rfl,_⟩|⟨rfl,rfl⟩
 ·have:=hb rfl
  have:=h.le
  have e:most.toNat=out.length:=by omega
  rw[e];exact (List.prefix_iff_eq_take.1 hpre)
 ·have e:out=a3d c l:=by rw[h.is,List.take_length];rfl
  rw[←e,List.take_of_length_le]
  have:=h.le
  omega
end
theorem b5v {c:List Kind} {l:List Rep} (hc:a1g c=true) (hp:∀r∈l,chs r≠0) (ch:List Int):(decide ((a1L l ch).2=0)&&decide ((a7U c (a1L l ch).1).2.2=0))=isF c l ch:=by
 have hg:c1J c l=true:=by
  simp only[c1J,hc,Bool.true_and]
  have:∀r∈l,a0w r=true:=fun r hr=>by
   cases hv:a0w r with
   |true=>rfl
   |false=>exact absurd (by simp[chs,hv]) (hp r hr)
  rw[a3h,List.all_eq_true];intro i hi
  have hi:=List.mem_range.1 hi
  simp only[List.getElem?_eq_getElem hi]
  exact this _ (List.getElem_mem hi)
 by_cases ha:b2C l ch=true
 ·rw[←c9p hg ha,a2Y,if_pos ha];simp
 ·rw[c0A (by rw[hg];simpa using ha),a2Y,if_neg ha];simp
theorem a9D (l:List Rep) (ch:List Int):(a1L l ch).1.length≤l.length:=by
 rw[a2Y]
 split
 ·exact b1y _ _ _
 ·simp
theorem a9E {l:List Rep} {ch:List Int} (hsl:∀r∈l,∀e∈r.options,SmE e):∀e∈(a1L l ch).1,SmE e:=fun e he=>by
 rw[a2Y]at he
 split at he
 ·exact c8m hsl he
 ·cases he
section
variable {c:List Kind} {l:List Rep}
end
end Go.Sx
namespace Go.Proofs.YtdapmfkbpnjkmaaGreat
open Go Go.Sx
set_option linter.all false
set_option maxRecDepth 20000
set_option maxHeartbeats 4000000
theorem c3q (I:IMap) (v:Value) (l:List Rep) (hv:RdS I v l) (hl:l.length≤1000000) (hsl:∀r∈l,∀e∈r.options,SmE e) (w:Value) (ch:List Int) (hw:RdS I w ch) :
    FnV Tryz.prog 184 #[v,w] I (.bool (b2C l ch)):=by
 obtain⟨A,c0,rfl,hA,hc,hm⟩:=hv;obtain⟨B,c1,rfl,hB,hc1,hm1⟩:=hw;refine enter Tryz.func184 Tryz.call184 rfl Tryz.ntmps184 rfl (fun w0=>?_);refine go 15 ?_;refine cb rfl (fun h10 p10=>?_) (fun h10 p10=>?_)
 ·refine go 7 ?_;refine a0s rfl rfl ?_;exact q_v (congrArg Value.bool (by simp only[b2C,show decide (((l.length:Nat):Int)=(ch.length:Nat))=false from by simpa using h10,bS]))
 ·have hle:((l.length:Nat):Int)=(ch.length:Nat):=by simpa using h10
  refine go 9 ?_
  refine a0Q (α:=Nat) 0 (fun i=>I)
   (fun i=>[(0,.slice A l.length c0),(1,.slice B ch.length c1),(5,.int .i64 ((i:Nat):Int))])
   (fun i=>[])
   (fun i=>i≤l.length∧a6F okK l ch i=true)
   (fun i=>l.length-i) ⟨Nat.zero_le _,rfl⟩ rfl sb rfl ?_
  intro i ⟨hi,hn⟩;refine go 9 ?_;refine cb rfl (fun h14 p14=>?_) (fun h14 p14=>?_)
  ·have hlt:i<l.length:=by omega
   have hlt2:i<ch.length:=by omega
   refine go 5 ?_;refine a0F T.mixed ?_;refine a0e 0 rfl rfl (by kernel_rfl) rfl .slnil rfl (a0a rfl) ?_;refine a0e 1 rfl rfl (by kernel_rfl) rfl .slnil rfl (a0a rfl) ?_;obtain⟨b19,o19,w19,e19,c19,r19⟩:=RdA.at_ hB (i:=i) (by omega);obtain rfl:=r19;refine a0e 2 rfl rfl (by kernel_rfl) rfl .slnil rfl (a0h he rfl rfl e19 (i) (by omega) (by omega)) ?_;refine a0e 3 rfl rfl (by kernel_rfl) rfl .slnil rfl (a0K he rfl (c19 0 _ rfl)) ?_;refine a0e 4 rfl rfl (by kernel_rfl) rfl .slnil rfl (a5o rfl rfl) ?_;refine a0e 5 rfl rfl (by kernel_rfl) rfl .slnil rfl (a0a rfl) ?_;refine sxb 22 rfl (fun h22 p22=>?_) (fun h22 p22=>?_)
   ·refine d_t 6 rfl rfl (by kernel_rfl) rfl (fun _ m=>m.keeps .slnil) (a0A rfl rfl h22) ?_;refine d_t 7 rfl rfl (by kernel_rfl) rfl (fun _ m=>m.keeps .slnil) (a0A rfl rfl h22) ?_;refine d_t 8 rfl rfl (by kernel_rfl) rfl (fun _ m=>m.keeps .slnil) (a0A rfl rfl h22) ?_;refine d_t 9 rfl rfl (by kernel_rfl) rfl (fun _ m=>m.keeps .slnil) (a0A rfl rfl h22) ?_;refine d_t 10 rfl rfl (by kernel_rfl) rfl (fun _ m=>m.keeps .slnil) (a0A rfl rfl h22) ?_;refine d_t 11 rfl rfl (by kernel_rfl) rfl (fun _ m=>m.keeps .slnil) (a0A rfl rfl h22) ?_;refine d_t 12 rfl rfl (by kernel_rfl) rfl (fun _ m=>m.keeps .slnil) (a0A rfl rfl h22) ?_;refine d_t 13 rfl rfl (by kernel_rfl) rfl (fun _ m=>m.keeps .slnil) (a0A rfl rfl h22) ?_;refine d_t 14 rfl rfl (by kernel_rfl) rfl (fun _ m=>m.keeps .slnil) (a0A rfl rfl h22) ?_;refine d_t 15 rfl rfl (by kernel_rfl) rfl (fun _ m=>m.keeps .slnil) (a0A rfl rfl h22) ?_;refine a0e 16 rfl rfl (by kernel_rfl) rfl .slnil rfl (a2s h22 rfl) ?_;refine a0n (by kernel_rfl) ?_;refine go 1 ?_;refine a2M rfl ?_;refine go 11 ?_;refine a0s rfl rfl ?_;exact q_v (congrArg Value.bool (by simp only[b2C,a6G hlt hlt hlt2 (show okK l[i] ch[i]=false by simp only[okK,h14,h22,bS]),bS]))
   ·refine d_t 6 rfl rfl (by kernel_rfl) rfl (fun _ m=>m.keeps .slnil) (a0k rfl rfl h22 (a0a rfl)) ?_;refine d_t 7 rfl rfl (by kernel_rfl) rfl (fun _ m=>m.keeps .slnil) (a0k rfl rfl h22 (a0a rfl)) ?_;obtain⟨b25,o25,w25,e25,c25,r25⟩:=RdA.at_ hB (i:=i) (by omega);obtain rfl:=r25;refine d_t 8 rfl rfl (by kernel_rfl) rfl (fun _ m=>m.keeps .slnil) (a0k rfl rfl h22 (a0h he rfl rfl e25 (i) (by omega) (by omega))) ?_;refine d_t 9 rfl rfl (by kernel_rfl) rfl (fun _ m=>m.keeps .slnil) (a0k rfl rfl h22 (a0K he rfl (c25 0 _ rfl))) ?_;refine d_t 10 rfl rfl (by kernel_rfl) rfl (fun _ m=>m.keeps .slnil) (a0k rfl rfl h22 (a0a rfl)) ?_;refine d_t 11 rfl rfl (by kernel_rfl) rfl (fun _ m=>m.keeps .slnil) (a0k rfl rfl h22 (a0a rfl)) ?_;obtain⟨b29,o29,w29,e29,c29,r29⟩:=RdA.at_ hA (i:=i) (by omega);obtain⟨q29,rfl,S29,d29,rfl,hS29,hd29,hm29⟩:=r29;refine d_t 12 rfl rfl (by kernel_rfl) rfl (fun _ m=>m.keeps .slnil) (a0k rfl rfl h22 (a0h he rfl rfl e29 (i) (by omega) (by omega))) ?_;refine d_t 13 rfl rfl (by kernel_rfl) rfl (fun _ m=>m.keeps .slnil) (a0k rfl rfl h22 (a0G he rfl c29 rfl)) ?_;refine a0m 14 (by kernel_rfl) rfl ?_;refine a0R rfl rfl h22 (a0d (a4V _ l[i] S29 d29 ⟨_,_,rfl,hS29,hd29,hm29⟩ (hsl _ (List.getElem_mem hlt))) rfl rfl ?_);refine a0D (fun _ m=>m.keeps .slnil) ?_;refine d_t 15 rfl rfl (by kernel_rfl) rfl (fun _ m=>m.keeps .slnil) (a0k rfl rfl h22 (b8a rfl rfl)) ?_;refine a0e 16 rfl rfl (by kernel_rfl) rfl .slnil rfl (a3b h22 rfl rfl) ?_;refine a0n (by kernel_rfl) ?_;refine go 1 ?_;refine cb rfl (fun h33 p33=>?_) (fun h33 p33=>?_)
    ·refine go 11 ?_;refine a0s rfl rfl ?_;exact q_v (congrArg Value.bool (by simp only[b2C,a6G hlt hlt hlt2 (show okK l[i] ch[i]=false by simp only[okK,h14,h22,h33,bS]),bS]))
    ·refine go 9 ?_;exact a0M (i+1) ⟨by omega,a5V hn hlt hlt2 (by simp only[okK,h14,h22,h33,bS])⟩ (by omega) rfl sb rfl
  ·refine go 11 ?_;refine a0s rfl rfl ?_
   have e:i=l.length:=(by omega)
   subst e;exact q_v (congrArg Value.bool (by simp only[b2C,hn,decide_eq_true hle,bS]))
theorem a9J (I:IMap) (v:Value) (l:List Rep) (hv:RdS I v l) (hl:l.length≤1000000) (hsl:∀r∈l,∀e∈r.options,SmE e) (w:Value) (ch:List Int) (hw:RdS I w ch) :
    FnI Tryz.prog 113 #[v,w] I (fun u J=>∃z,u = .tuple #[z,.int .i64 (a1L l ch).2]∧RdS J z (a1L l ch).1):=by
 have hv0:=hv
 have hw0:=hw
 obtain⟨A,c0,rfl,hA,hc,hm⟩:=hv;obtain⟨B,c1,rfl,hB,hc1,hm1⟩:=hw;refine enter Tryz.func113 Tryz.call113 rfl Tryz.ntmps113 rfl (fun w0=>?_);refine go 12 ?_;refine a0d (c3q _ _ l hv0 hl hsl _ ch hw0) rfl rfl ?_;refine go 3 ?_;refine cb rfl (fun h11 p11=>?_) (fun h11 p11=>?_)
 ·refine go 8 ?_;refine a1F rfl rfl rfl ?_
  have hn:¬b2C l ch=true:=by simpa using h11
  exact q_i ⟨_,by rw[a2Y,if_neg hn],by rw[a2Y,if_neg hn];exact RdS.nil'⟩
 ·have ha:b2C l ch=true:=by simpa using h11
  have hle:=b3V ha
  refine go 4 ?_;refine a1f 96 14 ?_;refine go 10 ?_
  refine a3B ((0:Nat)) (_) ([]) ([]) (fun i v6 xs out=>I)
   (fun i v6 xs out=>[(0,.slice A l.length c0),(1,.slice B ch.length c1),(6,v6),(7,.int .i64 ((i:Nat):Int))])
   (fun i v6 xs out=>[.row v6 96 14 out.length xs])
   (fun i v6 xs out=>i≤l.length∧a2U l ch i=out∧Flat I xs out)
   (fun i v6 xs out=>l.length-i) ⟨Nat.zero_le _,rfl,.nil⟩ rfl sb rfl ?_
  intro i v6 xs out ⟨hi,hev,hF⟩
  have hol:out.length≤i:=by rw[←hev];exact b1y _ _ _
  refine go 9 ?_;refine cb rfl (fun h15 p15=>?_) (fun h15 p15=>?_)
  ·have hlt:i<l.length:=by omega
   have hlt2:i<ch.length:=by omega
   have hai:=b8q ha hlt hlt2
   have hcl:=c4F l[i]
   refine go 5 ?_;refine a0F T.mixed ?_;refine a0e 0 rfl rfl (by kernel_rfl) rfl (.refl _) rfl (a0a rfl) ?_;refine a0e 1 rfl rfl (by kernel_rfl) rfl (.refl _) rfl (a0a rfl) ?_;obtain⟨b20,o20,w20,e20,c20,r20⟩:=RdA.at_ hB (i:=i) (by omega);obtain rfl:=r20;refine a0e 2 rfl rfl (by kernel_rfl) rfl (.refl _) rfl (a0h he rfl rfl e20 (i) (by omega) (by omega)) ?_;refine a0e 3 rfl rfl (by kernel_rfl) rfl (.refl _) rfl (a0K he rfl (c20 0 _ rfl)) ?_;refine a0e 4 rfl rfl (by kernel_rfl) rfl (.refl _) rfl (a0a rfl) ?_;refine a0e 5 rfl rfl (by kernel_rfl) rfl (.refl _) rfl (a0a rfl) ?_;obtain⟨b24,o24,w24,e24,c24,r24⟩:=RdA.at_ hA (i:=i) (by omega);obtain⟨q24,rfl,S24,d24,rfl,hS24,hd24,hm24⟩:=r24;refine a0e 6 rfl rfl (by kernel_rfl) rfl (.refl _) rfl (a0h he rfl rfl e24 (i) (by omega) (by omega)) ?_;refine a0e 7 rfl rfl (by kernel_rfl) rfl (.refl _) rfl (a0g he rfl) ?_;refine a0e 8 rfl rfl (by kernel_rfl) rfl (.refl _) rfl (a0K he rfl (c24 0 _ rfl)) ?_;refine a0e 9 rfl rfl (by kernel_rfl) rfl (.refl _) rfl (a3V he rfl) ?_;refine a0e 10 rfl rfl (by kernel_rfl) rfl (.refl _) rfl (a5o rfl rfl) ?_;refine a0n (by kernel_rfl) ?_;refine go 1 ?_;refine cb rfl (fun h28 p28=>?_) (fun h28 p28=>?_)
   ·have hk:ch[i].toNat<l[i].options.length:=by omega
    refine a1I T.mixed ?_;refine a0e 0 rfl rfl (by kernel_rfl) rfl (.cons _ .slnil) rfl (a0a rfl) ?_;refine a0e 1 rfl rfl (by kernel_rfl) rfl (.cons _ .slnil) rfl (a0a rfl) ?_;refine a0e 2 rfl rfl (by kernel_rfl) rfl (.cons _ .slnil) rfl (a0a rfl) ?_;obtain⟨b32,o32,w32,e32,c32,r32⟩:=RdA.at_ hA (i:=i) (by omega);obtain⟨q32,rfl,S32,d32,rfl,hS32,hd32,hm32⟩:=r32;refine a0e 3 rfl rfl (by kernel_rfl) rfl (.cons _ .slnil) rfl (a0h he rfl rfl e32 (i) (by omega) (by omega)) ?_;refine a0e 4 rfl rfl (by kernel_rfl) rfl (.cons _ .slnil) rfl (a0g he rfl) ?_;refine a0e 5 rfl rfl (by kernel_rfl) rfl (.cons _ .slnil) rfl (a0K he rfl (c32 0 _ rfl)) ?_;refine a0e 6 rfl rfl (by kernel_rfl) rfl (.cons _ .slnil) rfl (a0a rfl) ?_;refine a0e 7 rfl rfl (by kernel_rfl) rfl (.cons _ .slnil) rfl (a0a rfl) ?_;obtain⟨b37,o37,w37,e37,c37,r37⟩:=RdA.at_ hB (i:=i) (by omega);obtain rfl:=r37;refine a0e 8 rfl rfl (by kernel_rfl) rfl (.cons _ .slnil) rfl (a0h he rfl rfl e37 (i) (by omega) (by omega)) ?_;refine a0e 9 rfl rfl (by kernel_rfl) rfl (.cons _ .slnil) rfl (a0K he rfl (c37 0 _ rfl)) ?_;obtain⟨b39,o39,w39,e39,c39,r39⟩:=RdA.at_ hS32 (i:=ch[i].toNat) hk;obtain rfl:=r39;refine a0e 10 rfl rfl (by kernel_rfl) rfl (.cons _ .slnil) rfl (a0h he rfl rfl e39 (ch[i].toNat) (by omega) hk) ?_;refine a0e 11 rfl rfl (by kernel_rfl) rfl (.cons _ .slnil) rfl (a0G he rfl c39 rfl) ?_;refine a0m 12 (by kernel_rfl) rfl ?_;refine a0c he he rfl rfl rfl rfl rfl rfl rfl (fun v41=>?_);refine a0D (fun _ m=>m.keeps (.cons _ (.cons _ .slnil))) ?_;refine a0m 13 (by kernel_rfl) rfl ?_;refine a0f ?_;refine a0v he he rfl rfl rfl rfl rfl (by omega) (by omega) rfl (fun v42=>?_);refine a0D (fun _ m=>m.keeps (.cons _ (.cons _ .slnil))) ?_;refine a0e 14 rfl rfl (by kernel_rfl) rfl (.cons _ (.cons _ .slnil)) rfl (a0Y rfl) ?_;refine a0n (by kernel_rfl) ?_;refine go 8 ?_;refine a0f ?_;refine a0b ?_;exact a1N (i+1) (_) (_) (out++[l[i].options[ch[i].toNat]]) ⟨by omega,b8Y hlt hlt2 hev hk,hF.append (.one rfl)⟩ (by omega) rfl sb (by first|rfl|(simp only[List.length_append,List.length_singleton];rfl)|simp only[List.length_append,List.length_singleton])
   ·refine go 9 ?_;exact a1N (i+1) (_) (_) (out) ⟨by omega,c4I hlt hlt2 hev (by omega),hF⟩ (by omega) rfl sb (by first|rfl|(simp only[List.length_append,List.length_singleton];rfl)|simp only[List.length_append,List.length_singleton])
  ·refine go 7 ?_;obtain rfl:i=l.length:=by omega
   refine a0l (l:=out) rfl rfl (hF) (fun Ip jp Rp=>?_);refine go 6 ?_;refine a1F rfl rfl rfl ?_;exact q_i ⟨_,by rw[a2Y,if_pos ha],by rw[a2Y,if_pos ha,hev];exact Rp⟩
theorem b2f (I:IMap) (r:Rep) (S:Option Addr) (d:Nat) (hr:RdS I (.slice S r.options.length d) r.options) (hs:∀e∈r.options,SmE e) :
    FnV Tryz.prog 236 #[.agg (r.cells (.slice S r.options.length d)).toArray] I (.bool (decide (1<chs r))):=by
 refine enter Tryz.func236 Tryz.call236 rfl Tryz.ntmps236 rfl (fun w0=>?_);refine go 3 ?_;refine a0B _ rfl rfl rfl (fun g1=>?_);refine go 7 ?_;refine a0d (a4V _ r S d hr hs) rfl rfl ?_;refine go 5 ?_;refine a0s rfl rfl ?_;exact q_v rfl
theorem b7R (I:IMap) (vc:Value) (c:List Kind) (hvc:RdS I vc c) (hsc:SmC c) (v:Value) (l:List Rep) (hv:RdS I v l) (hl:l.length≤1000000) (hsl:∀r∈l,∀e∈r.options,SmE e)  :
    FnV Tryz.prog 182 #[.agg #[vc],v] I (.int .i64 (a7A c l)):=by
 have hv0:=hv
 obtain⟨A,c0,rfl,hA,hc,hm⟩:=hv;refine enter Tryz.func182 Tryz.call182 rfl Tryz.ntmps182 rfl (fun w0=>?_);refine go 3 ?_;refine a0B _ rfl rfl rfl (fun g2=>?_);refine go 13 ?_;refine a0d (a8P _ vc c hvc hsc) rfl rfl ?_;refine go 3 ?_;refine cb rfl (fun h9 p9=>?_) (fun h9 p9=>?_)
 ·refine go 7 ?_;refine a0s rfl rfl ?_;exact q_v (congrArg (Value.int .i64) (b8R (by rw[a3W];simpa using h9)).symm)
 ·have hC:a1g c=true:=by rw[a3W];simpa using h9
  refine go 9 ?_;refine a0b ?_
  refine a0Q (α:=Nat) 0 (fun i=>I)
   (fun i=>[(1,.slice A l.length c0),(5,.int .i64 ((c1I (l.take i):Nat):Int)),(6,.int .i64 ((i:Nat):Int))])
   (fun i=>[])
   (fun i=>i≤l.length∧∀r∈l.take i,chs r≠0)
   (fun i=>l.length-i) ⟨Nat.zero_le _,fun r hr=>by simp at hr⟩ rfl sb rfl ?_
  intro i ⟨hi,hp⟩
  have hdi:c1I (l.take i)≤(l.take i).length:=List.length_filter_le _ _
  rw[List.length_take]at hdi
  refine go 9 ?_;refine cb rfl (fun h13 p13=>?_) (fun h13 p13=>?_)
  ·have hlt:i<l.length:=by omega
   refine go 9 ?_;obtain⟨b18,o18,w18,e18,c18,r18⟩:=RdA.at_ hA (i:=i) (by omega);obtain⟨q18,rfl,S18,d18,rfl,hS18,hd18,hm18⟩:=r18;refine o_v rfl (a0h he rfl rfl e18 (i) (by omega) (by omega)) ?_;refine o_v rfl (a0G he rfl c18 rfl) ?_;refine go 1 ?_;refine a0d (a6e _ l[i] S18 d18 ⟨_,_,rfl,hS18,hd18,hm18⟩ (hsl _ (List.getElem_mem (by omega)))) rfl rfl ?_;refine go 3 ?_;refine cb rfl (fun h21 p21=>?_) (fun h21 p21=>?_)
   ·refine go 12 ?_;refine a0s rfl rfl ?_;exact q_v (congrArg (Value.int .i64) (b8Q hC hlt (by simp[Go.Sx.chs,show a0w l[i]=false by simpa using h21])).symm)
   ·have hne:Go.Sx.chs l[i]≠0:=by have:=b8D (r:=l[i]) (by simpa using h21);omega
    refine go 6 ?_;obtain⟨b24,o24,w24,e24,c24,r24⟩:=RdA.at_ hA (i:=i) (by omega);obtain⟨q24,rfl,S24,d24,rfl,hS24,hd24,hm24⟩:=r24;refine o_v rfl (a0h he rfl rfl e24 (i) (by omega) (by omega)) ?_;refine o_v rfl (a0G he rfl c24 rfl) ?_;refine go 1 ?_;refine a0d (b2f _ l[i] S24 d24 ⟨_,_,rfl,hS24,hd24,hm24⟩ (hsl _ (List.getElem_mem (by omega)))) rfl rfl ?_;refine go 2 ?_;refine cb rfl (fun h26 p26=>?_) (fun h26 p26=>?_)
    ·refine go 13 ?_;exact a0M (i+1) ⟨by omega,a8M hlt hp hne⟩ (by omega) rfl ⟨rfl,(congrArg (fun z=>some (Value.int .i64 z)) (by rw[a8B hlt,if_pos (by omega)];omega)),rfl,trivial⟩ rfl
    ·refine go 9 ?_;exact a0M (i+1) ⟨by omega,a8M hlt hp hne⟩ (by omega) rfl ⟨rfl,(congrArg (fun z=>some (Value.int .i64 z)) (by rw[a8B hlt,if_neg (by omega)];omega)),rfl,trivial⟩ rfl
  ·have e:i=l.length:=by omega
   subst e;rw[List.take_length]at hp hdi
   rw[List.take_length];refine go 12 ?_;refine cb rfl (fun h30 p30=>?_) (fun h30 p30=>?_)
   ·refine go 7 ?_;refine a0s rfl rfl ?_;exact q_v (congrArg (Value.int .i64) (by rw[b1w hC hp,if_pos p30]))
   ·refine go 8 ?_;refine a0s rfl rfl ?_;exact q_v (congrArg (Value.int .i64) (by rw[b1w hC hp,if_neg p30]))
theorem b3p (I:IMap) (vc:Value) (c:List Kind) (hvc:RdS I vc c) (hsc:SmC c) (v:Value) (l:List Rep) (hv:RdS I v l) (hl:l.length≤1000000) (hsl:∀r∈l,∀e∈r.options,SmE e) (hC:a1g c=true) (hP:∀r∈l,chs r≠0) (w:Value) (ch:List Int) (hw:RdS I w ch) :
    FnI Tryz.prog 237 #[.agg #[vc],v,w] I (fun u J=>u = .bool (isF c l ch)):=by
 refine enter Tryz.func237 Tryz.call237 rfl Tryz.ntmps237 rfl (fun w0=>?_);refine go 3 ?_;refine a0B _ rfl rfl rfl (fun g3=>?_);refine go 8 ?_;refine a0O (a9J _ _ l hv hl hsl _ ch hw) rfl rfl (fun v15 I15 j15 q15=>?_)
 have hvc:=hvc.le j15
 obtain⟨w15,rfl,hw15⟩:=q15;refine go 14 ?_;refine cb rfl (fun h19 p19=>?_) (fun h19 p19=>?_)
 ·refine go 7 ?_;refine a0s rfl rfl ?_;exact q_i (congrArg Value.bool (by rw[←b5v hC hP ch,decide_eq_false p19];rfl))
 ·have h0:(a1L l ch).2=0:=by simpa using h19
  have hle:=a9D l ch
  refine go 7 ?_;refine a0O (b6l _ vc c hvc hsc _ (a1L l ch).1 hw15 (by omega) (a9E hsl)) rfl rfl (fun v23 I23 j23 q23=>?_);obtain⟨w23,rfl,hw23⟩:=q23;refine go 5 ?_;refine a0j he rfl (fun g9=>?_);refine go 1 ?_;refine a0p _ he rfl rfl rfl rfl rfl (by simp[hw23.one]) ?_;refine go 12 ?_;refine a0s rfl rfl ?_;exact q_i (congrArg Value.bool (by rw[←b5v hC hP ch,decide_eq_true h0];rfl))
theorem b3q (I:IMap) (v:Value) (l:List Rep) (hv:RdS I v l) (hl:l.length≤1000000) (hsl:∀r∈l,∀e∈r.options,SmE e) (w:Value) (t:List Int) (hw:RdS I w t) (ht:t∈a2b l) :
    FnI Tryz.prog 238 #[v,w] I (fun u J=>∃z,u = .tuple #[z,.bool (a2J l t).2]∧RdS J z (a2J l t).1):=by
 have htl:=(a5w.1 ht).1
 have htb:=(a5w.1 ht).2
 have hv0:=hv
 obtain⟨A,c0,rfl,hA,hc,hm⟩:=hv;refine enter Tryz.func238 Tryz.call238 rfl Tryz.ntmps238 rfl (fun w0=>?_);refine go 9 ?_;refine a0c he he rfl rfl rfl rfl rfl rfl rfl (fun v8=>?_);refine go 2 ?_;refine a0y (hw) rfl he he rfl rfl rfl rfl (by omega) (by omega) rfl (fun v10 x10 f10=>?_);refine go 13 ?_
 refine a3B (l.length) (_) (_) (t) (fun j v6 xs m=>I)
  (fun j v6 xs m=>[(0,.slice A l.length c0),(6,v6),(7,.int .i64 (((j:Nat):Int)-1))])
  (fun j v6 xs m=>[.row v6 3 1 (0+t.length) xs])
  (fun j v6 xs m=>j≤l.length∧Flat I xs m∧m=t.take j++a3A (l.length-j)∧a2J (l.drop j) (t.drop j)=(a3A (l.length-j),false))
  (fun j v6 xs m=>j) ⟨Nat.le_refl _,f10,by simp[a3A,←htl],by simp[a2J,a3A]⟩ rfl sb rfl ?_
 intro j v6 xs m ⟨hj,hF,hm,hnx⟩;refine go 7 ?_;refine cb rfl (fun h15 p15=>?_) (fun h15 p15=>?_)
 ·have hj0:0<j:=by omega
  obtain⟨hjm,hmj⟩:=c8J hm hj0 hj htl
  have hml:m.length=l.length:=by rw[hm];simp[a3A];omega
  have hb:=htb (j-1) (by omega) (by omega)
  have hc5:=b1r l[j-1]
  refine c7s hF rfl (by omega) (by omega) (fun g15 cap15 rest15 xss15 hv15 hC15 hR15 hc15 hl15=>?_);subst hv15;refine go 6 ?_;refine a0F T.mixed ?_;refine a0e 0 rfl rfl (by kernel_rfl) rfl (.refl _) rfl (a0a rfl) ?_;refine a0e 1 rfl rfl (by kernel_rfl) rfl (.refl _) rfl (a0a rfl) ?_;refine a0e 2 rfl rfl (by kernel_rfl) rfl (.refl _) rfl (a0h he rfl rfl rfl (j-1) (by omega) (by omega)) ?_;refine a0e 3 rfl rfl (by kernel_rfl) rfl (.refl _) rfl (OV.cast (u:=.int .i64 t[j-1]) (a4m m0 (Uk.append (show Uk 1 xss15 from hC15.uk) hR15) he rfl (j-1) (by omega) (c8n hC15 (by omega))) (congrArg (Value.int .i64) hmj)) ?_;refine a0e 4 rfl rfl (by kernel_rfl) rfl (.refl _) rfl (a2d rfl rfl ⟨by omega,by omega⟩) ?_;refine a0e 5 rfl rfl (by kernel_rfl) rfl (.refl _) rfl (a0a rfl) ?_;refine a0e 6 rfl rfl (by kernel_rfl) rfl (.refl _) rfl (a0a rfl) ?_;obtain⟨b25,o25,w25,e25,c25,r25⟩:=RdA.at_ hA (i:=j-1) (by omega);obtain⟨q25,rfl,S25,d25,rfl,hS25,hd25,hm25⟩:=r25;refine a0e 7 rfl rfl (by kernel_rfl) rfl (.refl _) rfl (a0h he rfl rfl e25 (j-1) (by omega) (by omega)) ?_;refine a0e 8 rfl rfl (by kernel_rfl) rfl (.refl _) rfl (a0G he rfl c25 rfl) ?_;refine a0m 9 (by kernel_rfl) rfl ?_;refine a0d (a4V _ l[j-1] S25 d25 ⟨_,_,rfl,hS25,hd25,hm25⟩ (hsl _ (List.getElem_mem (by omega)))) rfl rfl ?_;refine a0D (fun _ m=>m.keeps (.refl _)) ?_;refine a0e 10 rfl rfl (by kernel_rfl) rfl (.refl _) rfl (a5o rfl rfl) ?_;refine a0n (by kernel_rfl) ?_;refine go 1 ?_;refine cb rfl (fun h28 p28=>?_) (fun h28 p28=>?_)
  ·refine go 4 ?_;refine o_v rfl (a0h he rfl rfl rfl (j-1) (by omega) (by omega)) ?_;refine o_v rfl (OV.cast (u:=.int .i64 t[j-1]) (a4m m0 (Uk.append (show Uk 1 xss15 from hC15.uk) hR15) he rfl (j-1) (by omega) (c8n hC15 (by omega))) (congrArg (Value.int .i64) hmj)) ?_;refine go 1 ?_;refine o_v rfl (a0h he rfl rfl rfl (j-1) (by omega) (by omega)) ?_;refine go 1 ?_;refine a1Y _ (j-1) (Uk.append (show Uk 1 xss15 from hC15.uk) hR15) he rfl rfl rfl rfl rfl (by omega) (by rw[List.length_append,hC15.len];omega) ?_;refine b3H (l:=m) (t[j-1]+1) hC15 hR15 rfl (by omega) (by omega) hc15 hl15 rfl (fun ws34 hF34=>?_);refine a0l (l:=(m.set (j-1) (t[j-1]+1))) rfl (by simp;omega) (hF34) (fun I34 j34 R34=>?_);refine go 16 ?_;refine a1F rfl rfl rfl ?_;exact q_i ⟨_,by rw[b5U hm hj0 hj htl hnx p28],by rw[b5U hm hj0 hj htl hnx p28];exact R34⟩
  ·refine go 5 ?_;refine o_v rfl (a0h he rfl rfl rfl (j-1) (by omega) (by omega)) ?_;refine go 1 ?_;refine a1Y _ (j-1) (Uk.append (show Uk 1 xss15 from hC15.uk) hR15) he rfl rfl rfl rfl rfl (by omega) (by rw[List.length_append,hC15.len];omega) ?_;refine b3H (l:=m) (0) hC15 hR15 rfl (by omega) (by omega) hc15 hl15 rfl (fun ws38 hF38=>?_);refine go 5 ?_;refine o_v rfl (OV.cast (u:=.int .i64 (((j-1:Nat):Int)-1)) (a1m rfl rfl ⟨by omega,by omega⟩) (congrArg (Value.int .i64) (by omega))) ?_;refine go 3 ?_;exact a1N (j-1) (_) (_) (m.set (j-1) 0) ⟨by omega,hF38,(b9O hm hj0 hj htl hnx p28).1,(b9O hm hj0 hj htl hnx p28).2⟩ (by omega) rfl sb rfl
 ·obtain rfl:j=0:=by omega
  have hm0:m=a3A l.length:=by simpa using hm
  have hn0:a2J l t=(m,false):=by rw[hm0];simpa using hnx
  have hml:m.length=t.length:=by rw[hm0];simp[a3A,htl]
  refine go 7 ?_;refine a0l (l:=m) rfl (by omega) (hF) (fun I39 j39 R39=>?_);refine go 6 ?_;refine a1F rfl rfl rfl ?_;exact q_i ⟨_,by rw[hn0],by rw[hn0];exact R39⟩
theorem b7Q (I:IMap) (vc:Value) (c:List Kind) (hvc:RdS I vc c) (hsc:SmC c) (v:Value) (l:List Rep) (hv:RdS I v l) (hl:l.length≤1000000) (hsl:∀r∈l,∀e∈r.options,SmE e) (hC:a1g c=true) (hP:∀r∈l,chs r≠0) (most:Int) (h1:1≤most) (h2:most≤4096) :
    FnI Tryz.prog 183 #[.agg #[vc],v,.int .i64 most] I (fun u J=>RdS J u ((a3d c l).take most.toNat)):=by
 have hv0:=hv
 obtain⟨A,c0,rfl,hA,hc,hm⟩:=hv;refine enter Tryz.func183 Tryz.call183 rfl Tryz.ntmps183 rfl (fun w0=>?_);refine go 3 ?_;refine a0B _ rfl rfl rfl (fun g3=>?_);refine go 5 ?_;refine a1f 65 1 ?_;refine go 8 ?_;refine a4D he he rfl rfl rfl (by omega) (by omega) rfl (fun g12=>?_);refine a1Q (fun Ig12 jg12 cg12=>?_)
 try have hvc:=hvc.le jg12
 try have hv0:=hv0.le jg12
 try have hA:=hA.le jg12
 try have h8:=h8.le jg12
 try have hF:=hF.le jg12
 refine go 10 ?_
 refine c5y ((0:Nat)) (_) ([]) ([]) (_) ((a3A l.length)) (true) (_) (fun k v7 xs out v8 ch b J=>J)
  (fun k v7 xs out v8 ch b J=>[(1,.slice A l.length c0),(2,.int .i64 most),(3,.pointer (some ⟨g3,0,none⟩)),(7,v7),(8,v8),(9,.bool b)])
  (fun k v7 xs out v8 ch b J=>[.row v7 65 1 out.length xs,.blk g3 24 [vc]])
  (fun k v7 xs out v8 ch b J=>Evy c l most k b ch out∧ILe Ig12 J∧RdS J v8 ch∧Flat J xs out)
  (fun k v7 xs out v8 ch b J=>(a2b l).length-k) ⟨Evy.start hP h1,ILe.refl _,a6Z (b2S l.length▸cg12) (by simp[a3A]) hl,.nil⟩ rfl sb rfl ?_
 intro k v7 xs out v8 ch b J ⟨hE,hJ,h8,hF⟩
 have h8s:=h8
 obtain⟨A8,c8,rfl,_,_,_⟩:=h8s
 have hol:=hE.le
 have hvc:=hvc.le hJ
 have hv0:=hv0.le hJ
 have hA:=hA.le hJ
 refine a2Q (fun A7 c7 hv7=>?_);subst hv7;refine go 5 ?_;refine sxb 14 rfl (fun h14 p14=>?_) (fun h14 p14=>?_)
 ·have hEt:Evy c l most k true ch out:=by rw[←h14];exact hE
  refine go 7 ?_;refine cb rfl (fun h19 p19=>?_) (fun h19 p19=>?_)
  ·refine go 10 ?_;refine a0O (b3p _ vc c hvc hsc _ l hv0 hl hsl hC hP _ ch h8) rfl rfl (fun v23 I23 j23 q23=>?_)
   try have hvc:=hvc.le j23
   try have hv0:=hv0.le j23
   try have hA:=hA.le j23
   try have h8:=h8.le j23
   try have hF:=hF.le j23
   obtain rfl:=q23;refine go 2 ?_;refine cb rfl (fun h23 p23=>?_) (fun h23 p23=>?_)
   ·refine go 4 ?_;refine a0c he he rfl rfl rfl rfl rfl rfl rfl (fun v26=>?_);refine go 1 ?_;refine a0f ?_;refine a0v he he rfl rfl rfl rfl rfl (by omega) (by omega) rfl (fun v27=>?_);refine go 7 ?_;refine a0O (b3q _ _ l hv0 hl hsl _ ch h8 hEt.mem) rfl rfl (fun v31 I31 j31 q31=>?_)
    try have hvc:=hvc.le j31
    try have hv0:=hv0.le j31
    try have hA:=hA.le j31
    try have h8:=h8.le j31
    try have hF:=hF.le j31
    obtain⟨w31,rfl,hw31⟩:=q31;refine go 8 ?_;refine a0f ?_;refine a0b ?_;exact c0r (k+1) (_) (_) (out++[ch]) (_) ((a2J l ch).1) ((a2J l ch).2) (_) ⟨hEt.yes hP p19 h23,hJ.trans (j23.trans j31),hw31,hF.append (.one ⟨_,rfl,h8⟩)⟩ (by have:=hEt.lt;omega) rfl sb (by first|rfl|(simp only[List.length_append];rfl))
   ·refine go 6 ?_;refine a0O (b3q _ _ l hv0 hl hsl _ ch h8 hEt.mem) rfl rfl (fun v31 I31 j31 q31=>?_)
    try have hvc:=hvc.le j31
    try have hv0:=hv0.le j31
    try have hA:=hA.le j31
    try have h8:=h8.le j31
    try have hF:=hF.le j31
    obtain⟨w31,rfl,hw31⟩:=q31;refine go 8 ?_;exact c0r (k+1) (_) (_) (out) (_) ((a2J l ch).1) ((a2J l ch).2) (_) ⟨hEt.no hP h23,hJ.trans (j23.trans j31),hw31,hF⟩ (by have:=hEt.lt;omega) rfl sb (by first|rfl|(simp only[List.length_append];rfl))
  ·refine go 7 ?_;refine a0l (l:=out) rfl rfl (hF) (fun I34 j34 R34=>?_);refine go 5 ?_;refine a0s rfl rfl ?_;exact q_i (by rw[←hE.end_ (fun _=>p19) h1];exact R34)
 ·refine go 7 ?_;refine a0T rfl ?_;refine go 7 ?_;refine a0l (l:=out) rfl rfl (hF) (fun I34 j34 R34=>?_);refine go 5 ?_;refine a0s rfl rfl ?_;exact q_i (by rw[←hE.end_ (fun h=>by rw[h]at h14;cases h14) h1];exact R34)
theorem c3t (I:IMap) (vc:Value) (c:List Kind) (hvc:RdS I vc c) (hsc:SmC c) (v:Value) (l:List Rep) (hv:RdS I v l) (hl:l.length≤1000000) (hsl:∀r∈l,∀e∈r.options,SmE e) (most:Int) :
    FnI Tryz.prog 112 #[.agg #[vc],v,.int .i64 most] I (fun u J=>∃w,u = .tuple #[w,.int .i64 (a2m c l most).2]∧RdS J w (a2m c l most).1):=by
 refine enter Tryz.func112 Tryz.call112 rfl Tryz.ntmps112 rfl (fun w0=>?_);refine go 3 ?_;refine a0B _ rfl rfl rfl (fun g3=>?_);refine go 10 ?_;refine sxb 12 rfl (fun h12 p12=>?_) (fun h12 p12=>?_)
 ·refine go 5 ?_;refine a2M rfl ?_;refine go 8 ?_;refine a1F rfl rfl rfl ?_
  have hr:a2m c l most=([],1):=by unfold a2m;rw[if_pos (by simp;omega)]
  exact q_i ⟨_,by rw[hr],by rw[hr];exact RdS.nil'⟩
 ·refine go 5 ?_;refine cb rfl (fun h15 p15=>?_) (fun h15 p15=>?_)
  ·refine go 8 ?_;refine a1F rfl rfl rfl ?_
   have hr:a2m c l most=([],1):=by unfold a2m;rw[if_pos (by simp;omega)]
   exact q_i ⟨_,by rw[hr],by rw[hr];exact RdS.nil'⟩
  ·have hb2:1≤most∧most≤4096:=by omega
   have hb:¬(decide (most<1)||decide (4096<most))=true:=by simp;omega
   refine go 7 ?_;refine a0d (b7R _ vc c hvc hsc _ l hv hl hsl) rfl rfl ?_;refine go 10 ?_;refine cb rfl (fun h20 p20=>?_) (fun h20 p20=>?_)
   ·refine go 9 ?_;refine a1F rfl rfl rfl ?_
    have hr:a2m c l most=([],a7A c l):=by unfold a2m;rw[if_neg hb,if_pos p20]
    exact q_i ⟨_,by rw[hr],by rw[hr];exact RdS.nil'⟩
   ·have her:a7A c l=0:=by simpa using h20
    obtain⟨hC,hP⟩:=b5q her;refine go 8 ?_;refine a0O (b7Q _ vc c hvc hsc _ l hv hl hsl hC hP most (by omega) (by omega)) rfl rfl (fun v25 I25 j25 q25=>?_)
    have q25s:=q25
    obtain⟨A25,c25,rfl,_,_,_⟩:=q25s;refine go 11 ?_;refine cb rfl (fun h28 p28=>?_) (fun h28 p28=>?_)
    ·refine go 8 ?_;refine a1F rfl rfl rfl ?_
     have hr:a2m c l most=([],21):=by unfold a2m;rw[if_neg hb,if_neg (by simpa using her),if_pos (List.eq_nil_of_length_eq_zero (by omega))]
     exact q_i ⟨_,by rw[hr],by rw[hr];exact RdS.nil'⟩
    ·refine go 10 ?_;refine a1F rfl rfl rfl ?_
     have hr:a2m c l most=((a3d c l).take most.toNat,0):=by unfold a2m;rw[if_neg hb,if_neg (by simpa using her),if_neg (fun e=>by rw[e,List.length_nil]at p28;omega)]
     exact q_i ⟨_,by rw[hr],by rw[hr];exact q25⟩
end Go.Proofs.YtdapmfkbpnjkmaaGreat
set_option linter.all false
namespace Go.Sx
open Go
theorem a8y {α:Type} {f:List α→α→Bool} {l:List α}:a3h f l l.length=true↔∀(i:Nat) (h:i<l.length),f (l.take i) l[i]=true:=by
 rw[a3h,List.all_eq_true]
 constructor
 ·intro h i hi
  have:=h i (List.mem_range.2 hi)
  simpa only[List.getElem?_eq_getElem hi]using this
 ·intro h i hi
  have hi:=List.mem_range.1 hi
  simp only[List.getElem?_eq_getElem hi]
  exact h i hi
theorem c1P {α:Type} {f:α→Bool} {l:List α}:a3h (fun _ x=>f x) l l.length=true↔∀x∈l,f x=true:=by
 rw[a8y]
 constructor
 ·intro h x hx;obtain⟨i,hi,rfl⟩:=List.getElem_of_mem hx;exact h i hi
 ·intro h i hi;exact h _ (List.getElem_mem hi)
theorem c0c {α:Type} {nm:α→ByteArray} {l:List α}:b7C nm l=true↔Inc nm l:=by
 constructor
 ·exact fun h=>b5w (Srt.of_ord h)
 ·intro h;unfold b7C;rw[a8y];intro i hi;unfold a4N
  cases i with
  |zero=>simp
  |succ i=>
   have:(l.take (i+1)).getLast? = some l[i]:=by
    rw[List.getLast?_eq_getElem?,List.length_take,Nat.min_eq_left (by omega),List.getElem?_take,if_pos (by omega)]
    simp
   rw[this];exact (List.pairwise_iff_getElem.1 h) i (i+1) (by omega) hi (by omega)
structure Sits (c:List Kind) (st:List Part) (p:Part):Prop where
 alive:p.scrapped=false
 host:∃q,q∈st∧q.name=p.into∧q.scrapped=false∧a4l c q.kind p.slot p.kind=true
structure VS (c:List Kind) (st:List Part):Prop where
 cat:a1g c=true
 len:st.length≤20000
 inc:Inc Part.name st
 right:∀p∈st,a3G c p=true
 both:∀p∈st,(p.into=a0Z↔p.slot=a0Z)
 sits:∀p∈st,p.into≠a0Z→Sits c st p
 apart:∀p∈st,∀q∈st,p.into≠a0Z→p.into=q.into→p.slot=q.slot→p=q
theorem b0Q {pre:List Part} {x:ByteArray×ByteArray}:hit a2r (a2N pre) x=true↔∃q∈pre,q.into≠a0Z∧a2r q=x:=by
 rw[a9p,List.any_eq_true]
 constructor
 ·rintro⟨q,hq,he⟩;rw[a2N,List.mem_filter]at hq
  exact⟨q,hq.1,by simpa using hq.2,by simpa using he⟩
 ·rintro⟨q,h1,h2,h3⟩;exact⟨q,by rw[a2N,List.mem_filter];exact⟨h1,by simpa using h2⟩,by simpa using h3⟩
theorem c6c {l:List Part} (h:Inc Part.name l) {i j:Nat} {hi:i<l.length} {hj:j<l.length} (he:l[i]=l[j]):i=j:=by
 rw[Inc,List.pairwise_iff_getElem]at h
 rcases Nat.lt_trichotomy i j with hij|hij|hij
 ·have:=h i j hi hj hij;rw[he,a1r]at this;cases this
 ·exact hij
 ·have:=h j i hj hi hij;rw[he,a1r]at this;cases this
theorem a3y {c:List Kind} {st:List Part}:a2T c st=true↔VS c st:=by
 unfold a2T b2E
 simp only[Bool.and_eq_true,Bool.not_eq_true',Bool.or_eq_false_iff,Bool.not_eq_false',decide_eq_false_iff_not]
 rw[c0c,a8y]
 constructor
 ·rintro⟨⟨⟨h1,h2⟩,h3⟩,h4⟩
  have key:∀(i:Nat) (hi:i<st.length),a3G c st[i]=true∧(st[i].into=a0Z↔st[i].slot=a0Z)∧(st[i].into≠a0Z→Sits c st st[i]∧∀q∈st.take i,q.into≠a0Z→a2r q≠a2r st[i]):=by
   intro i hi
   have h5:=h4 i hi
   simp only[a2F,b2F,Bool.and_eq_true,Bool.not_eq_true',Bool.or_eq_false_iff,Bool.not_eq_false',Bool.or_eq_true,decide_eq_true_eq]at h5
   obtain⟨⟨h6,h7⟩,h8⟩:=h5;refine⟨h6,?_,fun hne=>?_⟩
   ·have h7:decide (st[i].into=a0Z)=decide (st[i].slot=a0Z):=by simpa using h7
    by_cases ha:st[i].into=a0Z<;>by_cases hb:st[i].slot=a0Z<;>simp[ha,hb]at h7 ⊢
   ·rcases h8 with h8|h8
    ·exact absurd h8 hne
    ·simp only[a8Y,Bool.or_eq_false_iff,Bool.not_eq_false']at h8
     obtain⟨⟨⟨⟨h9,h10⟩,h11⟩,h12⟩,h13⟩:=h8;obtain⟨q,hq⟩:=Option.isSome_iff_exists.1 h9;rw[hq]at h11 h13
     have hq':=(a1s h3).1 hq
     refine⟨⟨h10,q,hq'.1,hq'.2,h11,h13⟩,fun q' hq' hn he=>?_⟩
     have:hit a2r (a2N (st.take i)) (a2r st[i])=true:=b0Q.2 ⟨q',hq',hn,he⟩
     rw[h12]at this;cases this
  refine⟨h1,by omega,h3,fun p hp=>?_,fun p hp=>?_,fun p hp=>?_,fun p hp q hq hn he hs=>?_⟩
  ·obtain⟨i,hi,rfl⟩:=List.getElem_of_mem hp;exact (key i hi).1
  ·obtain⟨i,hi,rfl⟩:=List.getElem_of_mem hp;exact (key i hi).2.1
  ·obtain⟨i,hi,rfl⟩:=List.getElem_of_mem hp;exact fun h=>((key i hi).2.2 h).1
  ·obtain⟨i,hi,rfl⟩:=List.getElem_of_mem hp;obtain⟨j,hj,rfl⟩:=List.getElem_of_mem hq
   have hse:a2r st[i]=a2r st[j]:=by simp[a2r,he,hs]
   rcases Nat.lt_trichotomy i j with hij|rfl|hij
   ·exact absurd hse (((key j hj).2.2 (by rw[←he];exact hn)).2 st[i] (by rw[List.mem_iff_getElem?];exact⟨i,by rw[List.getElem?_take,if_pos hij];simp⟩) hn)
   ·rfl
   ·exact absurd hse.symm (((key i hi).2.2 hn).2 st[j] (by rw[List.mem_iff_getElem?];exact⟨j,by rw[List.getElem?_take,if_pos hij];simp⟩) (by rw[←he];exact hn))
 ·intro h;refine⟨⟨⟨h.cat,by have:=h.len;omega⟩,h.inc⟩,fun i hi=>?_⟩
  have hm:=List.getElem_mem hi
  have hb:=h.both _ hm
  simp only[a2F,b2F,Bool.and_eq_true,Bool.not_eq_true',Bool.or_eq_false_iff,Bool.not_eq_false',Bool.or_eq_true,decide_eq_true_eq]
  refine⟨⟨h.right _ hm,?_⟩,?_⟩
  ·by_cases ha:st[i].into=a0Z
   ·simp[ha,hb.1 ha]
   ·have:¬st[i].slot=a0Z:=fun hs=>ha (hb.2 hs)
    simp[ha,this]
  ·by_cases ha:st[i].into=a0Z
   ·exact .inl ha
   ·right
    obtain⟨h1,q,h2,h3,h4,h5⟩:=h.sits _ hm ha
    have hf:a0E st st[i].into=some q:=(a1s h.inc).2 ⟨h2,h3⟩
    simp only[a8Y,Bool.or_eq_false_iff,Bool.not_eq_false']
    rw[hf];refine⟨⟨⟨⟨rfl,h1⟩,h4⟩,?_⟩,h5⟩;rw[Bool.eq_false_iff];intro hh;obtain⟨q',h6,h7,h8⟩:=b0Q.1 hh
    have h9:q'∈st:=List.mem_of_mem_take h6
    have h10:q'=st[i]:=h.apart _ h9 _ hm h7 (congrArg (·.1) h8) (congrArg (·.2) h8)
    obtain⟨j,hj,hje⟩:=List.getElem_of_mem h6;rw[List.length_take]at hj
    rw[List.getElem_take,h10]at hje
    have:=c6c h.inc hje
    omega
structure Step (c:List Kind) (st:List Part) (e:Evt) (p':Part):Prop where
  vs:VS c st
  ve:a1t e=true
  how:(e.op=1∧a0E st e.part=none∧(a2y c e.kind).isSome=true∧st.length≠20000∧p'=c2R e) ∨
    ∃p,a0E st e.part=some p∧p.scrapped=false ∧
      ((e.op=2∧∃q,a0E st e.into=some q∧q.scrapped=false∧((a2y c p.kind).getD a4M).vehicle=false∧a4l c q.kind e.slot p.kind=true∧p.into=a0Z∧a1e st e=false∧p' = { p with into:=e.into,slot:=e.slot }) ∨
       (e.op=3∧p.into≠a0Z∧p' = { p with into:=a0Z,slot:=a0Z }) ∨
       (e.op=4∧((a2y c p.kind).getD a4M).vehicle=true∧p'=p) ∨
       (e.op=5∧p'=a1q e p) ∨
       (e.op=6∧(a2x e p).props.length≤60∧p'=a2x e p) ∨
       (e.op=7∧p.into=a0Z∧a1l st p.name=false∧p' = { p with scrapped:=true }))
theorem b3O {e:Evt} (h:a1t e=true):1≤e.op∧e.op<8:=by
 simp only[a1t,a8s,Bool.and_eq_true,Bool.not_eq_true',Bool.or_eq_false_iff,decide_eq_false_iff_not]at h
 have:=h.1.1.1.1.1.1
 rw[a8o]at this
 omega
theorem b1i {c:List Kind} {st:List Part} {e:Evt} {p':Part} (h:Step c st e p'):a0q c st e=b6h st p':=by
 have hv:=a3y.2 h.vs
 unfold a0q;rw[if_neg (by simp[hv,h.ve])]
 rcases h.how with ⟨h1,h2,h3,h4,rfl⟩|⟨p,h1,h2,h3⟩
 ·rw[if_pos h1];unfold a2n;rw[if_neg (by simp[h2]),if_neg (by simp[h3]),if_neg (by omega)]
 ·have hpp:a1Z st e=p:=by simp[a1Z,h1]
  have h5:=b3O h.ve
  rcases h3 with ⟨h3,q,h4,h6,h7,h8,h9,h10,rfl⟩|⟨h3,h4,rfl⟩|⟨h3,h4,rfl⟩|⟨h3,rfl⟩|⟨h3,h4,rfl⟩|⟨h3,h4,h6,rfl⟩
  ·have ho:a2q st e=some q:=by simp[a2q,h3,h4]
   simp only[a0u,h3,ho,h1,hpp,a3l,a2i,h2,h6,a1b,a0V,h7,h8,h9,h10,Option.isSome_some,Option.getD_some]
   simp
  ·have ho:a2q st e=some p:=by simp[a2q,h3,h1]
   simp only[a0u,h3,ho,h1,hpp,a3l,a2i,h2,a1b,a0x,Option.isSome_some,Option.getD_some]
   simp[h4]
  ·have ho:a2q st e=some p':=by simp[a2q,h3,h1]
   simp only[a0u,h3,ho,h1,hpp,a3l,a2i,h2,a1b,a0W,h4,Option.isSome_some,Option.getD_some]
   simp
  ·have ho:a2q st e=some p:=by simp[a2q,h3,h1]
   simp only[a0u,h3,ho,h1,hpp,a3l,a2i,h2,a1b,Option.isSome_some,Option.getD_some]
   simp
  ·have ho:a2q st e=some p:=by simp[a2q,h3,h1]
   simp only[a0u,h3,ho,h1,hpp,a3l,a2i,h2,a1b,a0P,Option.isSome_some,Option.getD_some]
   simp;omega
  ·have ho:a2q st e=some p:=by simp[a2q,h3,h1]
   simp only[a0u,h3,ho,h1,hpp,a3l,a2i,h2,a1b,a0C,h4,h6,Option.isSome_some,Option.getD_some]
   simp
theorem b1V {c:List Kind} {st:List Part} {e:Evt} (h:(a0q c st e).2=0):∃p',Step c st e p':=by
 unfold a0q at h
 split at h
 ·cases h
 ·rename_i hv
  have hv:a2T c st=true∧a1t e=true:=by simpa using hv
  have hop:=b3O hv.2
  split at h
  ·rename_i h1
   unfold a2n at h
   split at h
   ·cases h
   ·rename_i h2
    split at h
    ·cases h
    ·rename_i h3
     split at h
     ·cases h
     ·rename_i h4
      exact⟨_,a3y.1 hv.1,hv.2,.inl ⟨h1,by simpa using h2,by rw[Option.isSome_iff_ne_none];simpa using h3,by omega,rfl⟩⟩
  ·rename_i h1
   unfold a0u at h
   split at h
   ·cases h
   ·rename_i h2
    split at h
    ·cases h
    ·rename_i h3
     have h2:(a0E st e.part).isSome=true∧(a2q st e).isSome=true:=by rw[Option.isSome_iff_ne_none,Option.isSome_iff_ne_none];simpa using h2
     obtain⟨p,hp⟩:=Option.isSome_iff_exists.1 h2.1;obtain⟨q,hq⟩:=Option.isSome_iff_exists.1 h2.2
     have hpp:a1Z st e=p:=by simp[a1Z,hp]
     have hqq:a3l st e=q:=by simp[a3l,hq]
     have hkk:a2i c st e=(a2y c p.kind).getD a4M:=by simp[a2i,hpp]
     rw[hpp,hqq]at h3
     have h3:p.scrapped=false∧q.scrapped=false:=by simpa using h3
     rw[hpp,hqq,hkk]at h
     unfold a1b at h
     split at h
     ·rename_i h4
      unfold a0V at h
      split at h
      ·cases h
      ·rename_i h5
       split at h
       ·cases h
       ·rename_i h6
        split at h
        ·cases h
        ·rename_i h7
         have h5:((a2y c p.kind).getD a4M).vehicle=false∧a4l c q.kind e.slot p.kind=true:=by simpa using h5
         exact⟨_,a3y.1 hv.1,hv.2,.inr ⟨p,hp,h3.1,.inl ⟨h4,q,by simpa[a2q,h4]using hq,h3.2,h5.1,h5.2,by simpa using h6,by simpa using h7,rfl⟩⟩⟩
     ·rename_i h4
      split at h
      ·rename_i h5
       unfold a0x at h
       split at h
       ·cases h
       ·rename_i h6;exact⟨_,a3y.1 hv.1,hv.2,.inr ⟨p,hp,h3.1,.inr (.inl ⟨h5,h6,rfl⟩)⟩⟩
      ·rename_i h5
       split at h
       ·rename_i h6
        unfold a0W at h
        split at h
        ·cases h
        ·rename_i h7;exact⟨_,a3y.1 hv.1,hv.2,.inr ⟨p,hp,h3.1,.inr (.inr (.inl ⟨h6,by simpa using h7,rfl⟩))⟩⟩
       ·rename_i h6
        split at h
        ·rename_i h7;exact⟨_,a3y.1 hv.1,hv.2,.inr ⟨p,hp,h3.1,.inr (.inr (.inr (.inl ⟨h7,rfl⟩)))⟩⟩
        ·rename_i h7
         split at h
         ·rename_i h8
          unfold a0P at h
          split at h
          ·cases h
          ·rename_i h9;exact⟨_,a3y.1 hv.1,hv.2,.inr ⟨p,hp,h3.1,.inr (.inr (.inr (.inr (.inl ⟨h8,by omega,rfl⟩))))⟩⟩
         ·rename_i h8
          split at h
          ·rename_i h9
           unfold a0C at h
           split at h
           ·cases h
           ·rename_i h10
            have h10:p.into=a0Z∧a1l st p.name=false:=by simpa using h10
            exact⟨_,a3y.1 hv.1,hv.2,.inr ⟨p,hp,h3.1,.inr (.inr (.inr (.inr (.inr ⟨h9,h10.1,h10.2,rfl⟩))))⟩⟩
          ·exfalso;omega
theorem a2R {e:Evt} (h:a1t e=true):a2k e.part=true∧0≤e.day∧e.day≤40000∧(e.op=2→a2k e.into=true∧a2k e.slot=true∧e.into≠e.part)∧(e.op=6→a2k e.key=true∧e.value≠a0Z∧((e.value.size:Nat):Int)≤200):=by
 simp only[a1t,a8s,Bool.and_eq_true,Bool.not_eq_true',Bool.or_eq_false_iff,decide_eq_false_iff_not,Bool.not_eq_false']at h
 obtain⟨⟨⟨⟨⟨⟨h1,h2⟩,h3⟩,h4⟩,h5⟩,h6⟩,h7⟩:=h;refine⟨h4,by omega,by omega,fun h8=>?_,fun h8=>?_⟩
 ·have h9:a1X e=[e.into,e.slot]:=by simp[a1X,h8]
  rw[h9]at h7
  simp only[List.any_cons,List.any_nil,Bool.or_eq_false_iff,Bool.not_eq_false']at h7
  have h10:a5G e=decide (e.into=e.part):=by simp[a5G,h8]
  rw[h10,decide_eq_false_iff_not]at h5
  exact⟨h7.1,h7.2.1,h5⟩
 ·have h9:a1X e=[e.key]:=by simp[a1X,h8]
  rw[h9]at h7
  simp only[List.any_cons,List.any_nil,Bool.or_eq_false_iff,Bool.not_eq_false']at h7
  have h10:a5G e=(decide (e.value=a0Z)||decide ((200:Int)<(e.value.size:Nat))):=by simp[a5G,h8]
  rw[h10,Bool.or_eq_false_iff,decide_eq_false_iff_not,decide_eq_false_iff_not]at h5
  exact⟨h7.1,h5.1,by omega⟩
theorem a4Y {s:ByteArray} (h:a2k s=true):s≠a0Z:=by
 rintro rfl
 simp[a2k]at h
structure RP (c:List Kind) (p:Part):Prop where
 kind:(a2y c p.kind).isSome=true
 name:a2k p.name=true
 made:0≤p.made
 since:p.made≤p.since
 since2:p.since≤40000
 few:p.props.length≤60
 props:∀q∈p.props,a4U q=true
 inc:Inc Prp.key p.props
 km:a2o p.life.km=true
 cycles:a2o p.life.cycles=true
 damage:a2o p.life.damage=true
theorem b3s {c:List Kind} {p:Part}:a3G c p=true↔RP c p:=by
 unfold a3G a3E
 simp only[Bool.and_eq_true,Bool.not_eq_true',Bool.or_eq_false_iff,Bool.not_eq_false',decide_eq_false_iff_not]
 rw[c0c,c1P]
 constructor
 ·rintro⟨⟨⟨⟨⟨⟨⟨h1,h2⟩,h3⟩,h4⟩,h5⟩,h6⟩,h7⟩,⟨⟨h8,h9⟩,h10⟩,h11⟩;exact⟨h1,h2,by omega,by omega,by omega,by omega,h7,h8,h9,h10,h11⟩
 ·rintro⟨h1,h2,h3,h4,h5,h6,h7,h8,h9,h10,h11⟩;exact⟨⟨⟨⟨⟨⟨⟨h1,h2⟩,by omega⟩,by omega⟩,by omega⟩,by omega⟩,h7⟩,⟨⟨h8,h9⟩,h10⟩,h11⟩
theorem Step.name {c:List Kind} {st:List Part} {e:Evt} {p':Part} (h:Step c st e p'):p'.name=e.part:=by
 rcases h.how with ⟨_,_,_,_,rfl⟩|⟨p,h1,_,h3⟩
 ·rfl
 ·have hn:p.name=e.part:=((a1s h.vs.inc).1 h1).2
  rcases h3 with ⟨_,q,_,_,_,_,_,_,rfl⟩|⟨_,_,rfl⟩|⟨_,_,rfl⟩|⟨_,rfl⟩|⟨_,_,rfl⟩|⟨_,_,_,rfl⟩<;>exact hn
theorem Step.kind {c:List Kind} {st:List Part} {e:Evt} {p' p:Part} (h:Step c st e p') (hp:a0E st e.part=some p):p'.kind=p.kind:=by
 rcases h.how with ⟨_,h2,_,_,rfl⟩|⟨p0,h1,_,h3⟩
 ·rw[hp]at h2;cases h2
 ·rw[hp]at h1;cases h1
  rcases h3 with ⟨_,q,_,_,_,_,_,_,rfl⟩|⟨_,_,rfl⟩|⟨_,_,rfl⟩|⟨_,rfl⟩|⟨_,_,rfl⟩|⟨_,_,_,rfl⟩<;>rfl
theorem Step.right {c:List Kind} {st:List Part} {e:Evt} {p':Part} (h:Step c st e p'):RP c p':=by
 obtain⟨v1,v2,v3,v4,v5⟩:=a2R h.ve
 rcases h.how with ⟨_,_,h3,_,rfl⟩|⟨p,h1,_,h3⟩
 ·exact⟨h3,v1,v2,Int.le_refl _,v3,by simp[c2R],fun _ h=>by simp[c2R]at h,by simp[c2R,Inc],rfl,rfl,rfl⟩
 ·have hr:=b3s.1 (h.vs.right p ((a1s h.vs.inc).1 h1).1)
  rcases h3 with ⟨_,q,_,_,_,_,_,_,rfl⟩|⟨_,_,rfl⟩|⟨_,_,rfl⟩|⟨_,rfl⟩|⟨h6,h7,rfl⟩|⟨_,_,_,rfl⟩
  ·exact⟨hr.kind,hr.name,hr.made,hr.since,hr.since2,hr.few,hr.props,hr.inc,hr.km,hr.cycles,hr.damage⟩
  ·exact⟨hr.kind,hr.name,hr.made,hr.since,hr.since2,hr.few,hr.props,hr.inc,hr.km,hr.cycles,hr.damage⟩
  ·exact hr
  ·have hs:=hr.since
   have hs2:=hr.since2
   refine⟨hr.kind,hr.name,hr.made,?_,?_,hr.few,hr.props,hr.inc,rfl,rfl,rfl⟩
   ·show p.made≤(if e.day>p.since then e.day else p.since);split<;>omega
   ·show (if e.day>p.since then e.day else p.since)≤40000;split<;>omega
  ·obtain⟨k1,k2,k3⟩:=v5 h6;refine⟨hr.kind,hr.name,hr.made,hr.since,hr.since2,h7,fun q hq=>?_,a4G _ hr.inc,hr.km,hr.cycles,hr.damage⟩
   rcases (a3s hr.inc).1 hq with rfl|⟨hq,_⟩
   ·simp only[a4U,k1,Bool.true_and,Bool.and_eq_true,Bool.not_eq_true',decide_eq_false_iff_not,decide_eq_true_eq]
    exact⟨k2,k3⟩
   ·exact hr.props q hq
  ·exact⟨hr.kind,hr.name,hr.made,hr.since,hr.since2,hr.few,hr.props,hr.inc,hr.km,hr.cycles,hr.damage⟩
theorem a4L {st:List Part} {e:Evt}:a1e st e=false↔∀x∈st,¬(x.into=e.into∧x.slot=e.slot):=by
 unfold a1e;rw[List.any_eq_false]
 simp
theorem a4A {st:List Part} {s:ByteArray}:a1l st s=false↔∀x∈st,x.into≠s:=by
 unfold a1l;rw[List.any_eq_false]
 simp
theorem Step.valid {c:List Kind} {st:List Part} {e:Evt} {p':Part} (h:Step c st e p'):VS c (a5u Part.name st p'):=by
 have hv:=h.vs
 have hi:=hv.inc
 have hn:=h.name
 obtain⟨v1,v2,v3,v4,v5⟩:=a2R h.ve
 have hm:∀z,z∈a5u Part.name st p'↔z=p'∨(z∈st∧z.name≠e.part):=fun z=>by rw[a3s hi,hn]
 -- the new part in its place
 have hpl:(p'.into=a0Z↔p'.slot=a0Z)∧(p'.into≠a0Z→p'.scrapped=false∧∃q,q∈st∧q.name=p'.into∧q.scrapped=false∧a4l c q.kind p'.slot p'.kind=true) ∧
   (p'.into≠a0Z→∀z∈st,z.name≠e.part→¬(z.into=p'.into∧z.slot=p'.slot))∧(p'.scrapped=true→∀z∈st,z.into≠e.part):=by
  rcases h.how with ⟨_,h2,_,_,rfl⟩|⟨p,h1,h2,h3⟩
  ·exact⟨⟨fun _=>rfl,fun _=>rfl⟩,fun h=>absurd rfl h,fun h=>absurd rfl h,fun h=>by cases h⟩
  ·have hp:=(a1s hi).1 h1
   have hb:=hv.both p hp.1
   have hold:p.into≠a0Z→p.scrapped=false∧∃q,q∈st∧q.name=p.into∧q.scrapped=false∧a4l c q.kind p.slot p.kind=true:=fun hne=>by
    obtain⟨s1,q,s2,s3,s4,s5⟩:=hv.sits p hp.1 hne;exact⟨s1,q,s2,s3,s4,s5⟩
   have hap:p.into≠a0Z→∀z∈st,z.name≠e.part→¬(z.into=p.into∧z.slot=p.slot):=fun hne z hz hzn ⟨e1,e2⟩=>by
    have:=hv.apart p hp.1 z hz hne e1.symm e2.symm
    subst this;exact hzn hp.2
   rcases h3 with ⟨o1,q,o2,o3,o4,o5,o6,o7,rfl⟩|⟨_,_,rfl⟩|⟨_,_,rfl⟩|⟨_,rfl⟩|⟨_,_,rfl⟩|⟨_,o2,o3,rfl⟩
   ·obtain⟨k1,k2,k3⟩:=v4 o1
    have hq:=(a1s hi).1 o2
    exact⟨⟨fun hh=>absurd hh (a4Y k1),fun hh=>absurd hh (a4Y k2)⟩,fun _=>⟨h2,q,hq.1,hq.2,o3,o5⟩,fun _ z hz _=>a4L.1 o7 z hz,fun hh=>by
     have:p.scrapped=true:=hh
     rw[h2]at this;cases this⟩
   ·exact⟨⟨fun _=>rfl,fun _=>rfl⟩,fun h=>absurd rfl h,fun h=>absurd rfl h,fun hh=>by
     have:p.scrapped=true:=hh
     rw[h2]at this;cases this⟩
   ·exact⟨hb,hold,hap,fun hh=>by rw[h2]at hh;cases hh⟩
   ·exact⟨hb,hold,hap,fun hh=>by
     have:p.scrapped=true:=hh
     rw[h2]at this;cases this⟩
   ·exact⟨hb,hold,hap,fun hh=>by
     have:p.scrapped=true:=hh
     rw[h2]at this;cases this⟩
   ·exact⟨hb,fun hne=>absurd o2 hne,fun hne=>absurd o2 hne,fun _ z hz=>by rw[←hp.2];exact a4A.1 o3 z hz⟩
 obtain⟨c1,c2,c3,c4⟩:=hpl
 have hk:∀q∈st,q.name=e.part→p'.kind=q.kind:=fun q hq hqn=>h.kind ((a1s hi).2 ⟨hq,hqn⟩)
 refine⟨hv.cat,?_,a4G _ hi,fun z hz=>?_,fun z hz=>?_,fun z hz hne=>?_,fun z hz w hw hne e1 e2=>?_⟩
 ·rw[a9G hi,b1k hi,hn]
  split
  ·exact hv.len
  ·rename_i hnf
   rcases h.how with ⟨_,_,_,h4,_⟩|⟨p,h1,_,_⟩
   ·have:=hv.len;omega
   ·exact absurd (by rw[show st.find? (fun y=>decide (y.name=e.part))=some p from h1];rfl) hnf
 ·rcases (hm z).1 hz with rfl|⟨hz,_⟩
  ·exact b3s.2 h.right
  ·exact hv.right z hz
 ·rcases (hm z).1 hz with rfl|⟨hz,_⟩
  ·exact c1
  ·exact hv.both z hz
 ·rcases (hm z).1 hz with rfl|⟨hz,hzn⟩
  ·obtain⟨d1,q,d2,d3,d4,d5⟩:=c2 hne
   by_cases hq:q.name=e.part
   ·exact⟨d1,z,(hm z).2 (.inl rfl),by rw[hn,←hq,d3],d1,by rw[hk q d2 hq];rw[hk q d2 hq]at d5;exact d5⟩
   ·exact⟨d1,q,(hm q).2 (.inr ⟨d2,hq⟩),d3,d4,d5⟩
  ·obtain⟨d1,q,d2,d3,d4,d5⟩:=hv.sits z hz hne
   by_cases hq:q.name=e.part
   ·have hsc:p'.scrapped=false:=by
     cases hs:p'.scrapped with
     |false=>rfl
     |true=>exact absurd (by rw[←d3,hq]) (c4 hs z hz)
    exact⟨d1,p',(hm p').2 (.inl rfl),by rw[hn,←hq,d3],hsc,by rw[hk q d2 hq];exact d5⟩
   ·exact⟨d1,q,(hm q).2 (.inr ⟨d2,hq⟩),d3,d4,d5⟩
 ·rcases (hm z).1 hz with hz1|⟨hz1,hzn⟩<;>rcases (hm w).1 hw with hw1|⟨hw1,hwn⟩
  ·rw[hz1,hw1]
  ·subst hz1;exact absurd ⟨e1.symm,e2.symm⟩ (c3 hne w hw1 hwn)
  ·subst hw1;exact absurd ⟨e1,e2⟩ (c3 (by rw[←e1];exact hne) z hz1 hzn)
  ·exact hv.apart z hz1 w hw1 hne e1 e2
def a1D (e:Evt):List ByteArray:=if e.op=2 then [e.part,e.into] else [e.part]
theorem Step.swap {c:List Kind} {st:List Part} {x y:Evt} {p1 p2:Part} (hx:Step c st x p1) (hy:Step c (a5u Part.name st p1) y p2) (h3:x.op≠3) (h3':y.op≠3) (hd:∀s∈a1D x,s∉a1D y) :
  Step c st y p2∧Step c (a5u Part.name st p2) x p1:=by
 have hi:=hx.vs.inc
 have n1:=hx.name
 have n2:=hy.name
 have xp:x.part∈a1D x:=by unfold a1D;split<;>simp
 have yp:y.part∈a1D y:=by unfold a1D;split<;>simp
 have hne:x.part≠y.part:=fun e=>hd _ xp (by rw[e];exact yp)
 have vx:=a2R hx.ve
 have vy:=a2R hy.ve
 have f1:∀s,s≠x.part→a0E (a5u Part.name st p1) s=a0E st s:=fun s hs=>by
  unfold a0E;rw[b6i hi,n1,if_neg (fun e=>hs e.symm)]
 have f2:∀s,s≠y.part→a0E (a5u Part.name st p2) s=a0E st s:=fun s hs=>by
  unfold a0E;rw[b6i hi,n2,if_neg (fun e=>hs e.symm)]
 have m1:∀z,z∈a5u Part.name st p1↔z=p1∨(z∈st∧z.name≠x.part):=fun z=>by rw[a3s hi,n1]
 have m2:∀z,z∈a5u Part.name st p2↔z=p2∨(z∈st∧z.name≠y.part):=fun z=>by rw[a3s hi,n2]
 -- where the part of x was,and is
 have wx:∀z∈st,z.name=x.part→z.into≠a0Z→p1.into=z.into∧p1.slot=z.slot:=fun z hz hzn hzi=>by
  rcases hx.how with ⟨_,h2,_,_,_⟩|⟨p,h1,_,h3x⟩
  ·exact absurd hzn (a9j.1 h2 z hz)
  ·have hp:=(a1s hi).1 h1
   have:z=p:=b5x hi hz hp.1 (by rw[hzn,hp.2])
   subst this
   rcases h3x with ⟨_,q,_,_,_,_,o6,_,rfl⟩|⟨o1,_,_⟩|⟨_,_,rfl⟩|⟨_,rfl⟩|⟨_,_,rfl⟩|⟨_,_,_,rfl⟩
   ·exact absurd o6 hzi
   ·exact absurd o1 h3
   all_goals exact⟨rfl,rfl⟩
 have hyst:Step c st y p2:=by
  refine⟨hx.vs,hy.ve,?_⟩
  rcases hy.how with ⟨o1,o2,o3,o4,o5⟩|⟨p,h1,h2,h3y⟩
  ·rw[f1 _ (Ne.symm hne)]at o2
   refine .inl ⟨o1,o2,o3,fun hl=>o4 ?_,o5⟩
   have:=hx.vs.len
   rw[a9G hi,b1k hi,n1]
   split
   ·exact hl
   ·rename_i hnf
    rcases hx.how with ⟨_,_,_,h4,_⟩|⟨p,h1,_,_⟩
    ·exact absurd hl h4
    ·exact absurd (by rw[show st.find? (fun y=>decide (y.name=x.part))=some p from h1];rfl) hnf
  ·rw[f1 _ (Ne.symm hne)]at h1
   refine .inr ⟨p,h1,h2,?_⟩
   rcases h3y with ⟨o1,q,o2,o3,o4,o5,o6,o7,o8⟩|⟨o1,_,_⟩|h|h|h|⟨o1,o2,o3,o4⟩
   ·have hyi:y.into∈a1D y:=by simp[a1D,o1]
    have hni:y.into≠x.part:=fun e=>hd _ xp (by rw[←e];exact hyi)
    rw[f1 _ hni]at o2
    refine .inl ⟨o1,q,o2,o3,o4,o5,o6,a4L.2 fun z hz ⟨e1,e2⟩=>?_,o8⟩
    by_cases hzn:z.name=x.part
    ·obtain⟨w1,w2⟩:=wx z hz hzn (by rw[e1];exact a4Y (vy.2.2.2.1 o1).1);exact a4L.1 o7 p1 ((m1 _).2 (.inl rfl)) ⟨by rw[w1,e1],by rw[w2,e2]⟩
    ·exact a4L.1 o7 z ((m1 _).2 (.inr ⟨hz,hzn⟩)) ⟨e1,e2⟩
   ·exact absurd o1 h3'
   ·exact .inr (.inr (.inl h))
   ·exact .inr (.inr (.inr (.inl h)))
   ·exact .inr (.inr (.inr (.inr (.inl h))))
   ·refine .inr (.inr (.inr (.inr (.inr ⟨o1,o2,a4A.2 fun z hz e1=>?_,o4⟩))))
    have hp:=(a1s hi).1 h1
    by_cases hzn:z.name=x.part
    ·obtain⟨w1,w2⟩:=wx z hz hzn (by rw[e1,hp.2];exact a4Y vy.1);exact a4A.1 o3 p1 ((m1 _).2 (.inl rfl)) (by rw[w1,e1])
    ·exact a4A.1 o3 z ((m1 _).2 (.inr ⟨hz,hzn⟩)) e1
 refine⟨hyst,hyst.valid,hx.ve,?_⟩
 -- where the part of y is
 have wy:∀s,s∈a1D x→s≠a0Z→p2.into=s→∃z∈st,z.into=s∧z.slot=p2.slot∧z.name=y.part:=fun s hs hsn he=>by
  rcases hyst.how with ⟨_,h2,_,_,rfl⟩|⟨p,h1,_,h3y⟩
  ·exact absurd he.symm hsn
  ·have hp:=(a1s hi).1 h1
   rcases h3y with ⟨o1,q,_,_,_,_,o6,_,rfl⟩|⟨o1,_,_⟩|⟨_,_,rfl⟩|⟨_,rfl⟩|⟨_,_,rfl⟩|⟨_,_,_,rfl⟩
   ·exact absurd (by rw[←he];simp[a1D,o1]) (hd s hs)
   ·exact absurd o1 h3'
   all_goals exact⟨_,hp.1,he,rfl,hp.2⟩
 rcases hx.how with ⟨o1,o2,o3,o4,o5⟩|⟨p,h1,h2,h3x⟩
 ·refine .inl ⟨o1,by rw[f2 _ hne];exact o2,o3,fun hl=>?_,o5⟩;rw[a9G hi,b1k hi,n2]at hl
  split at hl
  ·exact o4 hl
  ·rename_i hnf
   rcases hy.how with ⟨_,_,_,h4,_⟩|⟨p,h1,_,_⟩
   ·apply h4
    rw[a9G hi,b1k hi,n1,if_neg]
    ·exact hl
    ·rw[show st.find? (fun y=>decide (y.name=x.part))=none from o2];simp
   ·rw[f1 _ (Ne.symm hne)]at h1
    exact hnf (by rw[show st.find? (fun z=>decide (z.name=y.part))=some p from h1];rfl)
 ·refine .inr ⟨p,by rw[f2 _ hne];exact h1,h2,?_⟩
  have hp:=(a1s hi).1 h1
  rcases h3x with ⟨o1,q,o2,o3,o4,o5,o6,o7,o8⟩|⟨o1,_,_⟩|h|h|h|⟨o1,o2,o3,o4⟩
  ·have hxi:x.into∈a1D x:=by simp[a1D,o1]
   have hni:x.into≠y.part:=fun e=>hd _ hxi (by rw[e];exact yp)
   refine .inl ⟨o1,q,by rw[f2 _ hni];exact o2,o3,o4,o5,o6,a4L.2 fun z hz ⟨e1,e2⟩=>?_,o8⟩
   rcases (m2 z).1 hz with rfl|⟨hz,_⟩
   ·obtain⟨w,hw,w1,w2,_⟩:=wy _ hxi (a4Y (vx.2.2.2.1 o1).1) e1;exact a4L.1 o7 w hw ⟨w1,by rw[w2,e2]⟩
   ·exact a4L.1 o7 z hz ⟨e1,e2⟩
  ·exact absurd o1 h3
  ·exact .inr (.inr (.inl h))
  ·exact .inr (.inr (.inr (.inl h)))
  ·exact .inr (.inr (.inr (.inr (.inl h))))
  ·refine .inr (.inr (.inr (.inr (.inr ⟨o1,o2,a4A.2 fun z hz e1=>?_,o4⟩))))
   rcases (m2 z).1 hz with rfl|⟨hz,_⟩
   ·obtain⟨w,hw,w1,_,_⟩:=wy _ xp (a4Y vx.1) (by rw[e1,hp.2]);exact a4A.1 o3 w hw (by rw[w1,hp.2])
   ·exact a4A.1 o3 z hz e1
end Go.Sx
set_option linter.all false
namespace Go.Sx
open Go
theorem b5S {e:Evt} (hv:a1t e=true) (s:ByteArray):s∈a1O e↔s∈a1D e:=by
 unfold a1O a1D;rw[if_neg (by simp[hv])]
 split
 ·unfold c9W c9V
  cases h1:sLt e.part e.into with
  |true=>simp
  |false=>
   by_cases h2:e.part=e.into
   ·rw[h2];simp
   ·simp[h2]
    constructor
    ·rintro (h|h)
     ·exact .inr h
     ·exact .inl h
    ·rintro (h|h)
     ·exact .inr h
     ·exact .inl h
 ·rfl
end Go.Sx
set_option linter.all false
namespace Go.Sx
open Go
structure Spl (D:ByteArray→Bool) (s a b:List Part):Prop where
 is:Inc Part.name s
 ia:Inc Part.name a
 ib:Inc Part.name b
 mem:∀x,x∈s↔x∈a∨x∈b
 na:∀x∈a,D x.name=true∧(x.into=a0Z∨D x.into=true)
 nb:∀x∈b,D x.name=false∧(x.into=a0Z∨D x.into=false)
theorem Spl.nil (D:ByteArray→Bool):Spl D [] [] []:=⟨.nil,.nil,.nil,by simp,by simp,by simp⟩
theorem Spl.turn {D:ByteArray→Bool} {s a b:List Part} (h:Spl D s a b):Spl (fun n=>!D n) s b a:=
 ⟨h.is,h.ib,h.ia,fun x=>by rw[h.mem x];exact Or.comm,fun x hx=>by simpa using h.nb x hx,fun x hx=>by simpa using h.na x hx⟩
theorem Spl.find {D:ByteArray→Bool} {s a b:List Part} (h:Spl D s a b) {n:ByteArray} (hn:D n=true):a0E s n=a0E a n:=by
 refine Option.ext fun x=>?_
 show s.find? _=some x↔a.find? _=some x
 rw[a1s h.is,a1s h.ia,h.mem x]
 constructor
 ·rintro⟨h1|h1,h2⟩
  ·exact⟨h1,h2⟩
  ·have:=(h.nb x h1).1
   rw[h2,hn]at this;cases this
 ·rintro⟨h1,h2⟩;exact⟨.inl h1,h2⟩
def Dev (D:ByteArray→Bool) (e:Evt):Prop:=∀z∈a1D e,D z=true
theorem Dev.part {D:ByteArray→Bool} {e:Evt} (h:Dev D e):D e.part=true:=h _ (by unfold a1D;split<;>simp)
theorem Dev.into {D:ByteArray→Bool} {e:Evt} (h:Dev D e) (ho:e.op=2):D e.into=true:=h _ (by simp[a1D,ho])
theorem Spl.taken {D:ByteArray→Bool} {s a b:List Part} (h:Spl D s a b) {e:Evt} (hn:D e.into=true) (h0:e.into≠a0Z):a1e s e=a1e a e:=by
 unfold a1e;rw[Bool.eq_iff_iff,List.any_eq_true,List.any_eq_true]
 constructor
 ·rintro⟨x,hx,hp⟩
  rcases (h.mem x).1 hx with h1|h1
  ·exact⟨x,h1,hp⟩
  ·have hi:x.into=e.into:=by simp at hp;exact hp.1
   rcases (h.nb x h1).2 with h2|h2
   ·exact absurd (hi.symm.trans h2) h0
   ·rw[hi,hn]at h2;cases h2
 ·rintro⟨x,hx,hp⟩;exact⟨x,(h.mem x).2 (.inl hx),hp⟩
theorem Spl.holds {D:ByteArray→Bool} {s a b:List Part} (h:Spl D s a b) {n:ByteArray} (hn:D n=true) (h0:n≠a0Z):a1l s n=a1l a n:=by
 unfold a1l;rw[Bool.eq_iff_iff,List.any_eq_true,List.any_eq_true]
 constructor
 ·rintro⟨x,hx,hp⟩
  rcases (h.mem x).1 hx with h1|h1
  ·exact⟨x,h1,hp⟩
  ·have hi:x.into=n:=by simpa using hp
   rcases (h.nb x h1).2 with h2|h2
   ·exact absurd (hi.symm.trans h2) h0
   ·rw[hi,hn]at h2;cases h2
 ·rintro⟨x,hx,hp⟩;exact⟨x,(h.mem x).2 (.inl hx),hp⟩
theorem Spl.step {c:List Kind} {D:ByteArray→Bool} {s a b:List Part} (h:Spl D s a b) {e:Evt} (he:Dev D e) (vs:VS c s) (va:VS c a) (ls:s.length<20000) (la:a.length<20000) (p':Part):Step c s e p'↔Step c a e p':=by
 have f1:=h.find he.part
 constructor
 ·intro hs;obtain⟨v1,v2,v3,v4,v5⟩:=a2R hs.ve;refine⟨va,hs.ve,?_⟩
  rcases hs.how with ⟨h1,h2,h3,h4,h5⟩|⟨p,h1,h2,h3⟩
  ·exact .inl ⟨h1,by rw[←f1];exact h2,h3,by omega,h5⟩
  ·refine .inr ⟨p,by rw[←f1];exact h1,h2,?_⟩
   have hpn:p.name=e.part:=((a1s h.is).1 h1).2
   rcases h3 with ⟨o1,q,o2,o3,o4,o5,o6,o7,o8⟩|h3|h3|h3|h3|⟨o1,o2,o3,o4⟩
   ·exact .inl ⟨o1,q,by rw[←h.find (he.into o1)];exact o2,o3,o4,o5,o6,by rw[←h.taken (he.into o1) (a4Y (v4 o1).1)];exact o7,o8⟩
   ·exact .inr (.inl h3)
   ·exact .inr (.inr (.inl h3))
   ·exact .inr (.inr (.inr (.inl h3)))
   ·exact .inr (.inr (.inr (.inr (.inl h3))))
   ·exact .inr (.inr (.inr (.inr (.inr ⟨o1,o2,by rw[←h.holds (by rw[hpn];exact he.part) (by rw[hpn];exact a4Y v1)];exact o3,o4⟩))))
 ·intro hs;obtain⟨v1,v2,v3,v4,v5⟩:=a2R hs.ve;refine⟨vs,hs.ve,?_⟩
  rcases hs.how with ⟨h1,h2,h3,h4,h5⟩|⟨p,h1,h2,h3⟩
  ·exact .inl ⟨h1,by rw[f1];exact h2,h3,by omega,h5⟩
  ·refine .inr ⟨p,by rw[f1];exact h1,h2,?_⟩
   have hpn:p.name=e.part:=((a1s h.ia).1 h1).2
   rcases h3 with ⟨o1,q,o2,o3,o4,o5,o6,o7,o8⟩|h3|h3|h3|h3|⟨o1,o2,o3,o4⟩
   ·exact .inl ⟨o1,q,by rw[h.find (he.into o1)];exact o2,o3,o4,o5,o6,by rw[h.taken (he.into o1) (a4Y (v4 o1).1)];exact o7,o8⟩
   ·exact .inr (.inl h3)
   ·exact .inr (.inr (.inl h3))
   ·exact .inr (.inr (.inr (.inl h3)))
   ·exact .inr (.inr (.inr (.inr (.inl h3))))
   ·exact .inr (.inr (.inr (.inr (.inr ⟨o1,o2,by rw[h.holds (by rw[hpn];exact he.part) (by rw[hpn];exact a4Y v1)];exact o3,o4⟩))))
theorem Spl.put {c:List Kind} {D:ByteArray→Bool} {s a b:List Part} (h:Spl D s a b) {e:Evt} (he:Dev D e) {p':Part} (hs:Step c a e p'):Spl D (a5u Part.name s p') (a5u Part.name a p') b:=by
 have hn:=hs.name
 refine⟨a4G _ h.is,a4G _ h.ia,h.ib,fun x=>?_,fun x hx=>?_,h.nb⟩
 ·rw[a3s h.is,a3s h.ia,h.mem x,hn]
  constructor
  ·rintro (h1|⟨h1|h1,h2⟩)
   ·exact .inl (.inl h1)
   ·exact .inl (.inr ⟨h1,h2⟩)
   ·exact .inr h1
  ·rintro ((h1|⟨h1,h2⟩)|h1)
   ·exact .inl h1
   ·exact .inr ⟨.inl h1,h2⟩
   ·refine .inr ⟨.inr h1,fun h2=>?_⟩
    have:=(h.nb x h1).1
    rw[h2,he.part]at this;cases this
 ·rcases (a3s h.ia).1 hx with rfl|⟨h1,_⟩
  ·refine⟨by rw[hn];exact he.part,?_⟩
   rcases hs.how with ⟨_,_,_,_,rfl⟩|⟨p,h1,h2,h3⟩
   ·exact .inl rfl
   ·have hp:=h.na p ((a1s h.ia).1 h1).1
    rcases h3 with ⟨o1,q,o2,o3,o4,o5,o6,o7,rfl⟩|⟨_,_,rfl⟩|⟨_,_,rfl⟩|⟨_,rfl⟩|⟨_,_,rfl⟩|⟨_,_,_,rfl⟩
    ·exact .inr (he.into o1)
    ·exact .inl rfl
    ·exact hp.2
    ·exact hp.2
    ·exact hp.2
    ·exact hp.2
  ·exact h.na x h1
theorem c9k {l:List Part} {x:Part} (h:Inc Part.name l):(a5u Part.name l x).length≤l.length+1:=by
 rw[a9G h];split<;>omega
theorem c1y {c:List Kind} (h:a1g c=true):VS c []:=⟨h,by simp,.nil,by simp,by simp,by simp,by simp⟩
def Seen (kvs:List (ByteArray×Value)) (p:ByteArray→Bool):Prop:=∀s,(a5t kvs s).getD (.bool false) = .bool (p s)
theorem Seen.nil {p:ByteArray→Bool} (h:∀s,p s=false):Seen [] p:=fun s=>by rw[h s];rfl
theorem Seen.put {kvs:List (ByteArray×Value)} {p q:ByteArray→Bool} (h:Seen kvs p) (k:ByteArray) (hq:∀s,q s=(p s||decide (k=s))):Seen (a5D kvs k (.bool true)) q:=fun s=>by
 rw[a9v,hq s]
 by_cases hk:k=s
 ·simp[hk]
 ·simp[hk,h s]
theorem Seen.congr {kvs:List (ByteArray×Value)} {p q:ByteArray→Bool} (h:Seen kvs p) (hq:∀s,q s=p s):Seen kvs q:=fun s=>by rw[h s,hq s]
end Go.Sx
set_option linter.all false
namespace Go.Sx
open Go
def up (F:List Nat) (i:Nat):Nat:=F.getD i i
def rt (F:List Nat) (i:Nat):Nat:=if h:up F i<i then rt F (up F i) else i
termination_by i
section
variable {F G:List Nat} {i j x:Nat}
theorem a3R (h:up F i<i):rt F i=rt F (up F i):=by rw[rt,dif_pos h]
theorem a3H (h:¬up F i<i):rt F i=i:=by rw[rt,dif_neg h]
theorem c6Y (F:List Nat) (i:Nat):rt F i≤i:=by
 induction i using Nat.strongRecOn with
 |ind i ih=>
  by_cases h:up F i<i
  ·rw[a3R h];exact Nat.le_trans (ih _ h) (Nat.le_of_lt h)
  ·rw[a3H h];exact Nat.le_refl _
theorem b4N (F:List Nat) (i:Nat):¬up F (rt F i)<rt F i:=by
 induction i using Nat.strongRecOn with
 |ind i ih=>
  by_cases h:up F i<i
  ·rw[a3R h];exact ih _ h
  ·rw[a3H h];exact h
theorem b4M (F:List Nat) (i:Nat):rt F (rt F i)=rt F i:=a3H (b4N F i)
theorem c3B (h:∀j,up F j=up G j) (i:Nat):rt F i=rt G i:=by
 induction i using Nat.strongRecOn with
 |ind i ih=>
  by_cases h1:up F i<i
  ·rw[a3R h1,a3R (F:=G) (by rw[←h];exact h1),←h i];exact ih _ h1
  ·rw[a3H h1,a3H (F:=G) (by rw[←h];exact h1)]
def Fst (F:List Nat):Prop:=∀i,up F i≤i
theorem c7t (hi:i<F.length):up F i=F[i]:=by simp[up,List.getD,hi]
theorem b0Y (hi:i<F.length):up (F.set i x) j=if j=i then x else up F j:=by
 unfold up List.getD;rw[List.getElem?_set]
 by_cases h:i=j
 ·subst h;simp[hi]
 ·have h2:¬j=i:=fun e=>h e.symm
  simp[h,h2]
theorem Fst.half (h:Fst F) (hi:i<F.length):Fst (F.set i (up F (up F i)))∧∀j,rt (F.set i (up F (up F i))) j=rt F j:=by
 refine⟨fun j=>?_,fun j=>?_⟩
 ·rw[b0Y hi]
  split
  ·rename_i e;subst e;exact Nat.le_trans (h _) (h _)
  ·exact h j
 ·induction j using Nat.strongRecOn with
  |ind j ih=>
   by_cases e:j=i
   ·subst e
    have e1:up (F.set j (up F (up F j))) j=up F (up F j):=by rw[b0Y hi,if_pos rfl]
    by_cases h1:up F j<j
    ·have h2:up F (up F j)<j:=Nat.lt_of_le_of_lt (h _) h1
     rw[a3R (by rw[e1];exact h2),e1,ih _ h2,a3R h1]
     by_cases h3:up F (up F j)<up F j
     ·rw[a3R h3]
     ·have h4:up F (up F j)=up F j:=Nat.le_antisymm (h _) (Nat.not_lt.1 h3)
      rw[h4]
    ·have h4:up F j=j:=Nat.le_antisymm (h _) (Nat.not_lt.1 h1)
     rw[a3H h1,a3H (by rw[e1,h4,h4];exact Nat.lt_irrefl _)]
   ·have e1:up (F.set i (up F (up F i))) j=up F j:=by rw[b0Y hi,if_neg e]
    by_cases h1:up F j<j
    ·rw[a3R (by rw[e1];exact h1),e1,ih _ h1,a3R h1]
    ·rw[a3H h1,a3H (by rw[e1];exact h1)]
theorem Fst.join {a b:Nat} (h:Fst F) (ha:rt F a=a) (hb:rt F b=b) (hab:a≤b) (hl:b<F.length):Fst (F.set b a)∧∀j,rt (F.set b a) j=if rt F j=b then a else rt F j:=by
 have ua:¬up F a<a:=by have:=b4N F a;rwa[ha]at this
 have ub:¬up F b<b:=by have:=b4N F b;rwa[hb]at this
 refine⟨fun j=>?_,fun j=>?_⟩
 ·rw[b0Y hl]
  split
  ·omega
  ·exact h j
 ·induction j using Nat.strongRecOn with
  |ind j ih=>
   by_cases e:j=b
   ·subst e
    have e1:up (F.set j a) j=a:=by rw[b0Y hl,if_pos rfl]
    by_cases h1:a<j
    ·rw[a3R (by rw[e1];exact h1),e1,ih _ h1,ha,hb,if_pos rfl,if_neg (by omega)]
    ·have:a=j:=by omega
     subst this;rw[a3H (by rw[e1];exact h1),ha,if_pos rfl]
   ·have e1:up (F.set b a) j=up F j:=by rw[b0Y hl,if_neg e]
    by_cases h1:up F j<j
    ·rw[a3R (by rw[e1];exact h1),e1,ih _ h1,←a3R h1]
    ·rw[a3H h1,a3H (by rw[e1];exact h1),if_neg e]
theorem Fst.meet {a b:Nat} (h:Fst F) (ha:rt F a=a) (hb:rt F b=b) (hla:a<F.length) (hlb:b<F.length):Fst (F.set (max a b) (min a b))∧∀j,rt (F.set (max a b) (min a b)) j=if rt F j=a∨rt F j=b then min a b else rt F j:=by
 rcases Nat.le_total a b with hab|hab
 ·rw[Nat.max_eq_right hab,Nat.min_eq_left hab];obtain⟨h1,h2⟩:=h.join ha hb hab hlb;refine⟨h1,fun j=>?_⟩;rw[h2 j]
  by_cases e1:rt F j=b
  ·rw[if_pos e1,if_pos (.inr e1)]
  ·by_cases e2:rt F j=a
   ·rw[if_neg e1,if_pos (.inl e2),e2]
   ·rw[if_neg e1,if_neg (by rintro (h|h)<;>contradiction)]
 ·rw[Nat.max_eq_left hab,Nat.min_eq_right hab];obtain⟨h1,h2⟩:=h.join hb ha hab hla;refine⟨h1,fun j=>?_⟩;rw[h2 j]
  by_cases e1:rt F j=a
  ·rw[if_pos e1,if_pos (.inl e1)]
  ·by_cases e2:rt F j=b
   ·rw[if_neg e1,if_pos (.inr e2),e2]
   ·rw[if_neg e1,if_neg (by rintro (h|h)<;>contradiction)]
theorem c1m (F:List Nat) (j:Nat):up (F++[F.length]) j=up F j:=by
 unfold up List.getD
 rcases Nat.lt_or_ge j F.length with h|h
 ·rw[List.getElem?_append_left h]
 ·rw[List.getElem?_append_right h,List.getElem?_eq_none h]
  rcases Nat.eq_or_lt_of_le h with e|h2
  ·subst e;simp
  ·rw[List.getElem?_eq_none (by simp;omega)]
theorem Fst.snoc (h:Fst F):Fst (F++[F.length]):=fun j=>by rw[c1m];exact h j
theorem b4O (F:List Nat) (j:Nat):rt (F++[F.length]) j=rt F j:=c3B (c1m F) j
theorem c9t (h:F.length≤i):rt F i=i:=a3H (by unfold up List.getD;rw[List.getElem?_eq_none h];simp)
end
def nm (r:Rep) (z:ByteArray):Prop:=a0w r=true∧∃e∈r.options,z∈a1D e
theorem b9P {r:Rep} {ns:List ByteArray} (hn:a5v r ns) (z:ByteArray):z∈ns↔nm r z:=by
 rw[hn.1 z]
 constructor
 ·rintro⟨hv,e,he,h⟩;exact⟨hv,e,he,(b5S (a3a hv e he) z).1 h⟩
 ·rintro⟨hv,e,he,h⟩;exact⟨hv,e,he,(b5S (a3a hv e he) z).2 h⟩
inductive Lnk (l:List Rep):Nat→Nat→Prop
 |refl (i:Nat):Lnk l i i
 |one {i k:Nat} {z:ByteArray} (hi:i<l.length) (hk:k<l.length) (h1:nm l[i] z) (h2:nm l[k] z):Lnk l i k
 |symm {i k:Nat}:Lnk l i k→Lnk l k i
 |trans {i k m:Nat}:Lnk l i k→Lnk l k m→Lnk l i m
structure Rts (l:List Rep) (R:Nat→Nat):Prop where
 le:∀i,R i≤i
 idem:∀i,R (R i)=R i
 share:∀{i k:Nat} {z:ByteArray} (hi:i<l.length) (hk:k<l.length),nm l[i] z→nm l[k] z→R i=R k
 sound:∀i,Lnk l i (R i)
theorem Rts.lnk {l:List Rep} {R:Nat→Nat} (h:Rts l R) {i k:Nat} (hl:Lnk l i k):R i=R k:=by
 induction hl with
 |refl=>rfl
 |one hi hk h1 h2=>exact h.share hi hk h1 h2
 |symm _ ih=>exact ih.symm
 |trans _ _ h1 h2=>exact h1.trans h2
theorem Rts.uniq {l:List Rep} {R R':Nat→Nat} (h:Rts l R) (h':Rts l R'):R=R':=by
 funext i
 have h1:=h'.lnk (h.sound i)
 have h2:=h.lnk (h'.sound i)
 have h3:=h'.le (R i)
 have h4:=h.le (R' i)
 omega
theorem c2J {p:Nat→Prop}:∀n,p n→∃m,p m∧m≤n∧∀k,p k→m≤k:=by
 intro n
 induction n using Nat.strongRecOn with
 |ind n ih=>
  intro hn
  by_cases h:∃k,k<n∧p k
  ·obtain⟨k,hk,hp⟩:=h;obtain⟨m,h1,h2,h3⟩:=ih k hk hp;exact⟨m,h1,by omega,h3⟩
  ·exact⟨n,hn,Nat.le_refl _,fun k hk=>Nat.le_of_not_lt fun h2=>h ⟨k,h2,hk⟩⟩
theorem b6m (l:List Rep):∃R,Rts l R:=by
 have h:∀i,∃m,Lnk l i m∧m≤i∧∀k,Lnk l i k→m≤k:=fun i=>c2J i (.refl i)
 refine⟨fun i=>Classical.choose (h i),?_⟩
 have hs:=fun i=>(Classical.choose_spec (h i)).1
 have hle:=fun i=>(Classical.choose_spec (h i)).2.1
 have hm:=fun i=>(Classical.choose_spec (h i)).2.2
 have key:∀i k,Lnk l i k→Classical.choose (h i)=Classical.choose (h k):=fun i k hl=>by
  have h1:=hm i _ (hl.trans (hs k))
  have h2:=hm k _ (hl.symm.trans (hs i))
  omega
 exact⟨hle,fun i=>(key _ _ (hs i)).symm,fun hi hk h1 h2=>key _ _ (.one hi hk h1 h2),hs⟩
structure Lkd (l:List Rep) (n:Nat) (S:Nat→ByteArray→Prop) (F:List Nat) (fm:ByteArray→Option Nat):Prop where
 fst:Fst F
 len:F.length=n
 nl:n≤l.length
 lt:∀k z,S k z→k<n
 seen:∀k z,S k z→∃q,fm z=some q∧rt F q=rt F k
 own:∀z q,fm z=some q→q<n∧∃h:q<l.length,nm l[q] z
 sound:∀k,Lnk l k (rt F k)
section
variable {l:List Rep} {n i:Nat} {S S':Nat→ByteArray→Prop} {F F':List Nat} {fm:ByteArray→Option Nat} {z:ByteArray}
theorem Lkd.start:Lkd l 0 (fun _ _=>False) [] (fun _=>none):=
 ⟨fun i=>by simp[up],rfl,Nat.zero_le _,fun _ _ h=>h.elim,fun _ _ h=>h.elim,fun _ _ h=>by simp at h,fun k=>by rw[c9t (by simp)];exact .refl k⟩
theorem Lkd.congr (h:Lkd l n S F fm) (hS:∀k z,S' k z→S k z):Lkd l n S' F fm:=
 ⟨h.fst,h.len,h.nl,fun k z q=>h.lt k z (hS k z q),fun k z q=>h.seen k z (hS k z q),h.own,h.sound⟩
theorem Lkd.push (h:Lkd l n S F fm) (hn:n<l.length):Lkd l (n+1) S (F++[n]) fm:=by
 obtain rfl:=h.len;refine⟨h.fst.snoc,by simp,hn,fun k z q=>by have:=h.lt k z q;omega,fun k z q=>?_,fun z q hq=>?_,fun k=>by rw[b4O];exact h.sound k⟩
 ·obtain⟨m,h1,h2⟩:=h.seen k z q;exact⟨m,h1,by rw[b4O,b4O];exact h2⟩
 ·obtain⟨h1,h2⟩:=h.own z q hq;exact⟨by omega,h2⟩
theorem Lkd.same (h:Lkd l n S F fm) (hf:Fst F') (hl:F'.length=F.length) (hr:∀j,rt F' j=rt F j):Lkd l n S F' fm:=
 ⟨hf,hl.trans h.len,h.nl,h.lt,fun k z q=>by obtain⟨m,h1,h2⟩:=h.seen k z q;exact⟨m,h1,by rw[hr,hr];exact h2⟩,h.own,fun k=>by rw[hr];exact h.sound k⟩
theorem Lkd.hit {q:Nat} (h:Lkd l n S F fm) (hi:i<n) (hz:∃h:i<l.length,nm l[i] z) (hq:fm z=some q) (hf:Fst F') (hl:F'.length=F.length) (hr:∀j,rt F' j=if rt F j=rt F q∨rt F j=rt F i then min (rt F q) (rt F i) else rt F j) :
  Lkd l n (fun k y=>S k y∨k=i∧y=z) F' fm:=by
 have hc:∀a b,rt F a=rt F b→rt F' a=rt F' b:=fun a b e=>by rw[hr,hr,e]
 refine⟨hf,hl.trans h.len,h.nl,fun k y hk=>?_,fun k y hk=>?_,h.own,fun k=>?_⟩
 ·rcases hk with hk|⟨rfl,rfl⟩
  ·exact h.lt k y hk
  ·exact hi
 ·rcases hk with hk|⟨rfl,rfl⟩
  ·obtain⟨m,h1,h2⟩:=h.seen k y hk;exact⟨m,h1,hc _ _ h2⟩
  ·exact⟨q,hq,by rw[hr,hr,if_pos (.inl rfl),if_pos (.inr rfl)]⟩
 ·rw[hr];obtain⟨_,hql,hqz⟩:=h.own z q hq;obtain⟨hil,hiz⟩:=hz
  have hqi:Lnk l q i:=.one hql hil hqz hiz
  split
  ·rename_i e
   have h1:Lnk l k q:=by
    rcases e with e|e
    ·exact (h.sound k).trans (e▸(h.sound q).symm)
    ·exact ((h.sound k).trans (e▸(h.sound i).symm)).trans hqi.symm
   rcases Nat.le_total (rt F q) (rt F i) with h2|h2
   ·rw[Nat.min_eq_left h2];exact h1.trans (h.sound q)
   ·rw[Nat.min_eq_right h2];exact (h1.trans hqi).trans (h.sound i)
  ·exact h.sound k
theorem Lkd.new (h:Lkd l n S F fm) (hi:i<n) (hz:∃h:i<l.length,nm l[i] z) (hq:fm z=none):Lkd l n (fun k y=>S k y∨k=i∧y=z) F (fun y=>if z=y then some i else fm y):=by
 refine⟨h.fst,h.len,h.nl,fun k y hk=>?_,fun k y hk=>?_,fun y q hy=>?_,h.sound⟩
 ·rcases hk with hk|⟨rfl,rfl⟩
  ·exact h.lt k y hk
  ·exact hi
 ·rcases hk with hk|⟨rfl,rfl⟩
  ·obtain⟨m,h1,h2⟩:=h.seen k y hk;refine⟨m,?_,h2⟩
   show (if z=y then some i else fm y)=some m
   rw[if_neg (by rintro rfl;rw[hq]at h1;cases h1)];exact h1
  ·exact⟨k,by simp,rfl⟩
 ·split at hy
  ·rename_i e;subst e
   obtain rfl:=Option.some.inj hy;exact⟨hi,hz⟩
  ·exact h.own y q hy
theorem Lkd.done (h:Lkd l l.length S F fm) (hS:∀k z (hk:k<l.length),nm l[k] z→S k z):Rts l (rt F):=by
 refine⟨c6Y F,b4M F,fun {i k z} hi hk h1 h2=>?_,h.sound⟩;obtain⟨q,e1,e2⟩:=h.seen i z (hS i z hi h1);obtain⟨q',e3,e4⟩:=h.seen k z (hS k z hk h2);rw[e1]at e3
 obtain rfl:=Option.some.inj e3;exact e2.symm.trans e4
end
def a1k (R:Nat→Nat) (n:Nat):List Nat:=(List.range n).filter fun i=>decide (R i=i)
def a2c (R:Nat→Nat) (n r:Nat):List Nat:=(List.range n).filter fun k=>decide (R k=r)
def a5J (R:Nat→Nat) (n:Nat):List (List Nat):=(a1k R n).map (a2c R n)
section
variable {R:Nat→Nat} {n r k:Nat}
theorem b9G:k∈a1k R n↔k<n∧R k=k:=by simp[a1k]
theorem b1O:k∈a2c R n r↔k<n∧R k=r:=by simp[a2c]
theorem b0N:a1k R (n+1)=if R n=n then a1k R n++[n] else a1k R n:=by
 unfold a1k;rw[List.range_succ,List.filter_append]
 by_cases h:R n=n<;>simp[h]
theorem a5i:a2c R (n+1) r=if R n=r then a2c R n r++[n] else a2c R n r:=by
 unfold a2c;rw[List.range_succ,List.filter_append]
 by_cases h:R n=r<;>simp[h]
theorem b8K:(a5J R n).length=(a1k R n).length:=by simp[a5J]
end
end Go.Sx
set_option linter.all false
namespace Go.Sx
open Go
theorem Fst.rt_up {F:List Nat} (h:Fst F) (i:Nat):rt F (up F i)=rt F i:=by
 by_cases h1:up F i<i
 ·rw[a3R h1]
 ·rw[show up F i=i from Nat.le_antisymm (h i) (Nat.not_lt.1 h1)]
def a5b (F:List Nat):List (List Value):=F.map fun (x:Nat)=>[ci (x:Int)]
def nI (F:List Nat):List Int:=F.map fun (x:Nat)=>(x:Int)
section
variable {F:List Nat} {rest:List (List Value)} {i x:Nat}
theorem a2j (F:List Nat):Uk 1 (a5b F):=fun c hc=>by obtain⟨x,_,rfl⟩:=List.mem_map.1 hc;rfl
theorem a3Z (F:List Nat):(a5b F).length=F.length:=by simp[a5b]
theorem b1Q (h:i<F.length):(a5b F++rest)[i]? = some [ci ((F[i]:Nat):Int)]:=by
 rw[List.getElem?_append_left (by rw[a3Z];exact h)];simp[a5b,h]
theorem b5T (h:i<F.length) (x:Nat):(a5b F++rest).set i [ci (x:Int)]=a5b (F.set i x)++rest:=by
 rw[List.set_append_left _ _ (by rw[a3Z];exact h)];simp[a5b,List.map_set]
theorem b2Y (F:List Nat) (x:Nat):(a5b F).flatten++[ci (x:Int)]=(a5b (F++[x])).flatten:=by simp[a5b]
theorem a4S (F:List Nat):(nI F).length=F.length:=by simp[nI]
theorem c6n (h:i<F.length) (h2:i<(nI F).length):(nI F)[i]=(F[i]:Nat):=by simp[nI]
theorem b9M {I:IMap} (F:List Nat):Flat I (a5b F).flatten (nI F):=by
 induction F with
 |nil=>exact .nil
 |cons x F ih=>exact .cons (vs:=[ci (x:Int)]) rfl ih
end
section
variable {P:Program} {n:Sz} {E:Ent} {I:IMap} {L:LL} {H:List Res} {K:Act→World→Prop} {α:Type} {f:α→Res} {l:List α} {k:Nat} {a b c d e:Res}
end
abbrev Lst:=Value×List Nat
section
variable {P:Program} {n:Sz} {E:Ent} {I:IMap} {L:LL} {H:List Res} {K:Act→World→Prop} {e:Nat}
end
section
variable {P:List Lst} {rest:List (List Value)} {k:Nat}
end
section
variable {n:Sz} {E:Ent} {I:IMap} {L:LL} {H:List Res} {K:Act→World→Prop} {e:Nat} {v:Value} {q:List Nat} {x:Nat}
end
section
variable {R:Nat→Nat} {i k r:Nat}
end
theorem c6k {kvs:List (ByteArray×Value)} {fm:ByteArray→Option Nat} (hM:∀z,a5t kvs z=(fm z).map fun (q:Nat)=>Value.int .i64 (q:Int)) (k:ByteArray) (i:Nat):∀z,a5t (a5D kvs k (.int .i64 (i:Int))) z=(if k=z then some i else fm z).map fun (q:Nat)=>Value.int .i64 (q:Int):=fun z=>by
 rw[a9v,hM z];split<;>rfl
theorem b5O {a:Prop} {k i j:Nat} {z:ByteArray} {ns:List ByteArray} (hj:j<ns.length) (h:a∨(k=i∧z∈ns.take (j+1))):(a∨(k=i∧z∈ns.take j))∨(k=i∧z=ns[j]):=by
 rcases h with h|⟨h1,h2⟩
 ·exact .inl (.inl h)
 ·rw[←a0i hj]at h2
  rcases List.mem_append.1 h2 with h2|h2
  ·exact .inl (.inr ⟨h1,h2⟩)
  ·exact .inr ⟨h1,List.mem_singleton.1 h2⟩
theorem c6j {l:List Rep} {i k:Nat} {z:ByteArray} {ns:List ByteArray} (hi:i<l.length) (hn:a5v l[i] ns) (h:k<i+1∧∃h:k<l.length,nm l[k] z):(k<i∧∃h:k<l.length,nm l[k] z)∨(k=i∧z∈ns):=by
 obtain⟨h1,h2,h3⟩:=h
 rcases Nat.lt_or_ge k i with h4|h4
 ·exact .inl ⟨h4,h2,h3⟩
 ·obtain rfl:k=i:=by omega
  exact .inr ⟨rfl,(b9P hn z).2 h3⟩
end Go.Sx
set_option linter.all false
namespace Go.Sx
open Go
def a4O {α:Type} (l:List α) (C:List Nat):List α:=C.filterMap fun i=>l[i]?
section
variable {α:Type} {l:List α} {C:List Nat}
theorem a4x {i:Nat} (h:i<l.length) (C:List Nat):a4O l (i::C)=l[i]::a4O l C:=by
 simp[a4O,List.filterMap_cons,h]
theorem a5k (h:∀i∈C,i<l.length):(a4O l C).length=C.length:=by
 induction C with
 |nil=>rfl
 |cons i C ih=>rw[a4x (h i (by simp))];simp[ih fun k hk=>h k (by simp[hk])]
theorem c3a (h:∀i∈C,i<l.length) {k:Nat} (hk:k<C.length):(a4O l C)[k]? = some (l[C[k]]'(h _ (List.getElem_mem hk))):=by
 induction C generalizing k with
 |nil=>simp at hk
 |cons i C ih=>
  rw[a4x (h i (by simp))]
  cases k with
  |zero=>simp
  |succ k=>simpa using ih (fun k hk=>h k (by simp[hk])) (by simpa using hk)
theorem c0h (h:∀i∈C,i<l.length) {k:Nat} (hk:k<C.length) (h2:k<(a4O l C).length):(a4O l C)[k]=l[C[k]]'(h _ (List.getElem_mem hk)):=by
 have:=c3a h hk
 rw[List.getElem?_eq_getElem h2]at this
 exact Option.some.inj this
theorem c0i {x:α} (h:x∈a4O l C):x∈l:=by
 obtain⟨i,_,hi⟩:=List.mem_filterMap.1 h;exact List.mem_of_getElem? hi
theorem a8i (A B:List Nat):a4O l (A++B)=a4O l A++a4O l B:=by simp[a4O]
theorem a6y (l:List α):a4O l (List.range l.length)=l:=by
 refine List.ext_getElem ?_ fun k h1 h2=>?_
 ·rw[a5k (fun i hi=>List.mem_range.1 hi),List.length_range]
 ·rw[c0h (fun i hi=>List.mem_range.1 hi) (by simpa using h2)];simp
end
def gE (d:Int) (l:List Rep) (t:List Int) (i:Nat):Option Evt:=(at2 (a3L d) l t i).join
theorem b7E {d:Int} {l:List Rep} {t:List Int} {C:List Nat} (hl:t.length=l.length) (h:∀i∈C,i<l.length):b0k d (a4O l C) (a4O t C)=C.filterMap (gE d l t):=by
 induction C with
 |nil=>rfl
 |cons i C ih=>
  have hi:=h i (by simp)
  rw[a4x hi,a4x (by omega),b0k,List.zip_cons_cons,List.filterMap_cons,List.filterMap_cons,gE,a2K hi (by omega)]
  have:=ih fun k hk=>h k (by simp[hk])
  rw[b0k]at this
  simp only[Option.join_some]
  rw[this]
theorem b4E {d:Int} {l:List Rep} {t:List Int} (hl:t.length=l.length):b0k d l t=(List.range l.length).filterMap (gE d l t):=by
 have:=b7E (d:=d) (l:=l) (t:=t) (C:=List.range l.length) hl fun i hi=>List.mem_range.1 hi
 rw[a6y]at this
 conv at this=>lhs;arg 3;rw[←hl,a6y]
 exact this
theorem b5s {α β:Type} {f g:α→Option β}:∀{l:List α},(∀x∈l,f x=g x)→l.filterMap f=l.filterMap g
 | [],_=>rfl
 |x::l,h=>by rw[List.filterMap_cons,List.filterMap_cons,h x (by simp),b5s fun y hy=>h y (by simp[hy])]
section
variable {c:List Kind} {l:List Rep} {R:Nat→Nat} {t:List Int} {r:Nat}
theorem b9J {n i:Nat} (h:i∈a2c R n r):i<n:=(b1O.1 h).1
end
end Go.Sx
set_option linter.all false
namespace Go.Sx
open Go
section
variable {c:List Kind} {l:List Rep} {R:Nat→Nat} {t:List Int} {r i n:Nat}
theorem b4m (h:t∈a3d c l):t∈a2b l:=(List.mem_filter.1 h).1
end
end Go.Sx
namespace Go.Proofs.YtdapmfkbpnjkmaaGreat
open Go Go.Sx
set_option linter.all false
set_option maxRecDepth 20000
set_option maxHeartbeats 4000000
instance T.elt_121:Has (a8r Tryz.prog 121) (3,1):=⟨by kernel_rfl⟩
instance T.und_121:Has (Tryz.prog.underlying 121) (.slice 3):=⟨by kernel_rfl⟩
theorem a8H (I:IMap) (g cap:Nat) (F:List Nat) (rest:List (List Value)) (hR:Uk 1 rest) (hF:Fst F) (i:Nat) (hi:i<F.length) :
    FnG Tryz.prog 70 #[.slice (some ⟨g,0,none⟩) F.length cap,.int .i64 ((i:Nat):Int)] I (.blk g 3 (a5b F++rest).flatten) (fun u J r=>∃G,u = .int .i64 ((rt F i:Nat):Int)∧r = .blk g 3 (a5b G++rest).flatten∧G.length=F.length∧Fst G∧∀q,rt G q=rt F q):=by
 refine enter Tryz.func70 Tryz.call70 rfl Tryz.ntmps70 rfl (fun w0=>?_);refine go 7 ?_
 refine a1z (i) (F) (fun j G=>I)
  (fun j G=>[(0,.slice (some ⟨g,0,none⟩) F.length cap),(1,.int .i64 ((j:Nat):Int))])
  (fun j G=>[.blk g 3 (a5b G++rest).flatten])
  (fun j G=>j<F.length∧G.length=F.length∧Fst G∧(∀q,rt G q=rt F q)∧rt F j=rt F i)
  (fun j G=>j) ⟨hi,rfl,hF,fun _=>rfl,rfl⟩ rfl sb rfl ?_
 intro j G ⟨hj,hG,hFG,hr,hje0⟩
 have hjG:j<G.length:=by omega
 have hup:up G j=G[j]:=c7t hjG
 have hle:G[j]≤j:=by rw[←hup];exact hFG j
 have hgG:G[j]<G.length:=by omega
 have hup2:up G (up G j)=G[G[j]]:=by rw[hup];exact c7t hgG
 have hle2:G[G[j]]≤G[j]:=by have:=hFG G[j];rw[c7t hgG]at this;exact this
 refine go 5 ?_;refine o_v rfl (a0h he rfl rfl rfl (j) (by omega) (by omega)) ?_;refine o_v rfl (a4m m0 (Uk.append (a2j _) hR) he rfl (j) (by omega) (b1Q hjG)) ?_;refine go 4 ?_;refine cb rfl (fun h10 p10=>?_) (fun h10 p10=>?_)
 ·have hjne:G[j]<j:=by omega
  refine go 10 ?_;refine o_v rfl (a0h he rfl rfl rfl (j) (by omega) (by omega)) ?_;refine o_v rfl (a4m m0 (Uk.append (a2j _) hR) he rfl (j) (by omega) (b1Q hjG)) ?_;refine o_v rfl (a0h he rfl rfl rfl (G[j]) (by omega) (by omega)) ?_;refine o_v rfl (a4m m0 (Uk.append (a2j _) hR) he rfl (G[j]) (by omega) (b1Q hgG)) ?_;refine o_v rfl (a0h he rfl rfl rfl (j) (by omega) (by omega)) ?_;refine go 1 ?_;refine a1Y _ (j) (Uk.append (a2j _) hR) he rfl rfl rfl rfl rfl (by omega) (by rw[List.length_append,a3Z];omega) ?_;refine a3o (a5b (G.set j G[G[j]])++rest).flatten (by rw[b5T hjG]) ?_;refine go 5 ?_;refine o_v rfl (a0h he rfl rfl rfl (j) (by omega) (by omega)) ?_;refine o_v rfl (OV.cast (u:=.int .i64 ((G[G[j]]:Nat):Int)) (a4m m0 (Uk.append (a2j _) hR) he rfl (j) (by omega) (b1Q (by simp;omega))) (congrArg (Value.int .i64) (by simp))) ?_;refine go 4 ?_;exact a0X (G[G[j]]) (G.set j G[G[j]]) ⟨by omega,by simp[hG],hup2▸(hFG.half hjG).1,fun q=>by rw[←hup2,(hFG.half hjG).2 q,hr q],by rw[←hje0,←hr,←hr j,←hup2,hFG.rt_up,hFG.rt_up]⟩ (by omega) rfl sb rfl
 ·have hje:rt F i=j:=by rw[←hje0,←hr j];exact a3H (by omega)
  refine go 12 ?_;refine a0s rfl rfl ?_;exact q_g ⟨G,by rw[hje],rfl,hG,hFG,hr⟩
theorem c2K (I:IMap) (g cap:Nat) (F:List Nat) (rest:List (List Value)) (hR:Uk 1 rest) (hF:Fst F) (a b:Nat) (ha:a<F.length) (hb:b<F.length) :
    FnG Tryz.prog 124 #[.slice (some ⟨g,0,none⟩) F.length cap,.int .i64 ((a:Nat):Int),.int .i64 ((b:Nat):Int)] I (.blk g 3 (a5b F++rest).flatten) (fun u J r=>∃G,u = .tuple #[]∧r = .blk g 3 (a5b G++rest).flatten∧G.length=F.length∧Fst G∧∀q,rt G q=if rt F q=rt F a∨rt F q=rt F b then min (rt F a) (rt F b) else rt F q):=by
 refine enter Tryz.func124 Tryz.call124 rfl Tryz.ntmps124 rfl (fun w0=>?_);refine go 5 ?_;refine a7K (a8H _ g cap F rest hR hF a ha) rfl rfl (fun v10 I10 s10 j10 q10=>?_);obtain⟨G,rfl,rfl,hG,hFG,hr⟩:=q10;refine go 3 ?_;refine a7K (hG▸a8H _ g cap G rest hR hFG b (by omega)) rfl rfl (fun v13 I13 s13 j13 q13=>?_);obtain⟨G2,rfl,rfl,hG2,hFG2,hr2⟩:=q13
 have hra:=c6Y F a
 have hrb:=c6Y F b
 rw[hr b]
 have hmx:max (rt F a) (rt F b)<G2.length:=by omega
 refine go 8 ?_;refine o_v rfl (OV.cast (u:=.int .i64 ((max (rt F a) (rt F b):Nat):Int)) (c7z rfl rfl) (congrArg (Value.int .i64) (by split<;>omega))) ?_;refine go 2 ?_;refine o_v rfl (OV.cast (u:=.int .i64 ((min (rt F a) (rt F b):Nat):Int)) (c9B rfl rfl) (congrArg (Value.int .i64) (by split<;>omega))) ?_;refine o_v rfl (a0h he rfl rfl rfl (max (rt F a) (rt F b)) (by omega) (by omega)) ?_;refine go 1 ?_;refine a1Y _ (max (rt F a) (rt F b)) (Uk.append (a2j _) hR) he rfl rfl rfl rfl rfl (by omega) (by rw[List.length_append,a3Z];omega) ?_;refine a3o (a5b (G2.set (max (rt F a) (rt F b)) (min (rt F a) (rt F b)))++rest).flatten (by rw[b5T hmx]) ?_;refine go 1 ?_;refine a6E rfl ?_
 have hid:∀q,rt G2 q=rt F q:=fun q=>(hr2 q).trans (hr q)
 obtain⟨m1,m2⟩:=hFG2.meet (a:=rt F a) (b:=rt F b) (by rw[hid,b4M]) (by rw[hid,b4M]) (by omega) (by omega);exact q_g ⟨_,rfl,rfl,by simp;omega,m1,fun q=>by rw[m2 q,hid q]⟩
theorem b7o (I:IMap) (v:Value) (l:List Rep) (hv:RdS I v l) (hl:l.length≤1000000) (hsl:∀r∈l,∀e∈r.options,SmE e)  :
    FnH Tryz.prog 69 #[v] I [] (fun u J H2=>∃w m F kvs fm,u = .tuple #[w,.map (some m)]∧H2=[.row w 3 1 F.length (a5b F).flatten,.mp m (a2E Value.string kvs)]∧Lkd l l.length (fun k z=>∃h:k<l.length,nm l[k] z) F fm∧(∀z,a5t kvs z=(fm z).map fun (q:Nat)=>Value.int .i64 (q:Int))):=by
 have hv0:=hv
 obtain⟨A,c0,rfl,hA,hc,hm⟩:=hv;refine enter Tryz.func69 Tryz.call69 rfl Tryz.ntmps69 rfl (fun w0=>?_);refine go 8 ?_;refine a1f 3 1 ?_;refine go 6 ?_;refine a7h (Value.string) he rfl (fun r11=>?_);refine go 12 ?_;refine a0f ?_
 refine c5x ((0:Nat)) (_) ([]) ([]) ((fun _=>none)) (I) (fun i v4 F kvs fm J=>J)
  (fun i v4 F kvs fm J=>[(0,.slice A l.length c0),(5,.map (some r11)),(13,.int .i64 ((l.length:Nat):Int)),(14,.int .i64 ((i:Nat):Int)),(4,v4)])
  (fun i v4 F kvs fm J=>[.row v4 3 1 F.length (a5b F).flatten,.mp r11 (a2E Value.string kvs)])
  (fun i v4 F kvs fm J=>i≤l.length∧ILe I J∧Lkd l i (fun k z=>k<i∧∃h:k<l.length,nm l[k] z) F fm∧(∀z,a5t kvs z=(fm z).map fun (q:Nat)=>Value.int .i64 (q:Int)))
  (fun i v4 F kvs fm J=>l.length-i) ⟨Nat.zero_le _,ILe.refl _,Lkd.start.congr (fun k z h=>absurd h.1 (Nat.not_lt_zero k)),fun z=>rfl⟩ rfl sb rfl ?_
 intro i v4 F kvs fm J ⟨hi,hJ,hK,hM⟩
 have hlF:=hK.len
 have hv0:=hv0.le hJ
 have hA:=hA.le hJ
 refine go 6 ?_;refine cb rfl (fun h15 p15=>?_) (fun h15 p15=>?_)
 ·have hlt:i<l.length:=by omega
  refine go 15 ?_;refine a0c he he rfl rfl rfl rfl rfl rfl rfl (fun v19=>?_);refine go 1 ?_;refine a0f ?_;refine a0v he he rfl rfl rfl rfl rfl (by omega) (by omega) rfl (fun v20=>?_);refine go 5 ?_;refine b2u (ys:=(a5b (F++[i])).flatten) (show _=_ from b2Y F i) ?_;refine a8n (a2j (F++[i])) (by simp[a3Z]) (fun h0 _=>by omega) (fun g21 cap21 rest21 hv21 hR21 hcap21 hmax21=>?_);subst hv21;refine go 2 ?_;obtain⟨b23,o23,w23,e23,c23,r23⟩:=RdA.at_ hA (i:=i) (by omega);obtain⟨q23,rfl,S23,d23,rfl,hS23,hd23,hm23⟩:=r23;refine o_v rfl (a0h he rfl rfl e23 (i) (by omega) (by omega)) ?_;refine o_v rfl (a0G he rfl c23 rfl) ?_;refine go 1 ?_;refine a0O (c3y _ l[i] S23 d23 ⟨_,_,rfl,hS23,hd23,hm23⟩ (hsl _ (List.getElem_mem hlt))) rfl rfl (fun v25 I25 j25 q25=>?_)
  try have hv0:=hv0.le j25
  try have hA:=hA.le j25
  try have hNA:=hNA.le j25
  obtain⟨ns,hns,hno⟩:=q25;obtain⟨NA,nc,rfl,hNA,_,_⟩:=hns
  have hnl:=hno.2
  refine go 5 ?_;refine a0f ?_;refine a0b ?_
  refine a5x ((0:Nat)) ((F++[i])) (kvs) (fm) (_) (fun j G kvs2 fm2 J2=>J2)
   (fun j G kvs2 fm2 J2=>[(0,.slice A l.length c0),(5,.map (some r11)),(13,.int .i64 ((l.length:Nat):Int)),(14,.int .i64 ((i:Nat):Int)),(4,.slice (some ⟨g21,0,none⟩) (F.length+1) cap21),(6,.int .i64 ((i:Nat):Int)),(25,.slice NA ns.length nc),(26,.int .i64 ((ns.length:Nat):Int)),(27,.int .i64 ((j:Nat):Int))])
   (fun j G kvs2 fm2 J2=>[.blk g21 3 (a5b G++rest21).flatten,.mp r11 (a2E Value.string kvs2)])
   (fun j G kvs2 fm2 J2=>j≤ns.length∧ILe I25 J2∧Lkd l (i+1) (fun k z=>(k<i∧∃h:k<l.length,nm l[k] z)∨(k=i∧z∈ns.take j)) G fm2∧(∀z,a5t kvs2 z=(fm2 z).map fun (q:Nat)=>Value.int .i64 (q:Int)))
   (fun j G kvs2 fm2 J2=>ns.length-j) ⟨Nat.zero_le _,ILe.refl _,(hK.push hlt).congr (fun k z h=>h.elim id fun h=>by simp at h),hM⟩ rfl sb rfl ?_
  intro j G kvs2 fm2 J2 ⟨hj,hJ2,hK2,hM2⟩
  have hGl:G.length=F.length+1:=by rw[hK2.len,hlF]
  have hG1:=hK2.len
  have hv0:=hv0.le hJ2
  have hA:=hA.le hJ2
  have hNA:=hNA.le hJ2
  refine go 6 ?_;refine cb rfl (fun h28 p28=>?_) (fun h28 p28=>?_)
  ·have hlj:j<ns.length:=by omega
   refine go 6 ?_;obtain⟨b29,o29,w29,e29,c29,r29⟩:=RdA.at_ hNA (i:=j) (by omega);obtain rfl:=r29;refine o_v rfl (a0h he rfl rfl e29 (j) (by omega) (by omega)) ?_;refine o_v rfl (a0K he rfl (c29 0 _ rfl)) ?_;refine go 7 ?_;refine o_v rfl (b3M m1 (a1K he) he he (ns[j]) rfl rfl rfl rfl) ?_;refine go 12 ?_;refine cb rfl (fun h37 p37=>?_) (fun h37 p37=>?_)
   ·obtain⟨q,hq⟩:∃q,fm2 ns[j]=some q:=by
      rw[hM2]at h37
      cases hq:fm2 ns[j]with
      |none=>rw[hq]at h37;cases h37
      |some q=>exact⟨q,rfl⟩
    have hmg:(a5t kvs2 ns[j]).getD (.int .i64 0) = .int .i64 (q:Int):=by rw[hM2,hq];rfl
    rw[hmg]
    have hq1:=(hK2.own _ q hq).1
    refine go 5 ?_;refine a7K (hGl▸c2K _ g21 cap21 G rest21 hR21 hK2.fst q i (by omega) (by omega)) rfl rfl (fun v41 I41 s41 j41 q41=>?_)
    try have hv0:=hv0.le j41
    try have hA:=hA.le j41
    try have hNA:=hNA.le j41
    obtain⟨G2,rfl,rfl,hG2,hFG2,hr2⟩:=q41;refine go 8 ?_;exact a1T (j+1) (G2) (kvs2) (fm2) (_) ⟨by omega,hJ2.trans j41,(hK2.hit (by omega) ⟨hlt,(b9P hno _).1 (List.getElem_mem hlj)⟩ hq hFG2 (hG2.trans hGl.symm) hr2).congr fun k z h=>b5O hlj h,hM2⟩ (by omega) rfl sb rfl
   ·have hq0:fm2 ns[j]=none:=by
      rw[hM2]at h37
      cases hq:fm2 ns[j]with
      |none=>rfl
      |some q=>rw[hq]at h37;cases h37
    refine go 5 ?_;refine a0f ?_;refine a4w (a5D kvs2 ns[j] (.int .i64 (i:Int))) (a1K he) he (ns[j]) rfl rfl rfl (rfl) ?_;refine go 8 ?_;refine a0f ?_;exact a1T (j+1) (G) ((a5D kvs2 ns[j] (.int .i64 (i:Int)))) ((fun y=>if ns[j]=y then some i else fm2 y)) (_) ⟨by omega,hJ2,(hK2.new (by omega) ⟨hlt,(b9P hno _).1 (List.getElem_mem hlj)⟩ hq0).congr fun k z h=>b5O hlj h,c6k hM2 ns[j] i⟩ (by omega) rfl sb rfl
  ·obtain rfl:j=ns.length:=by omega
   rw[List.take_length]at hK2
   refine a2G (a2j G) hR21 (by rw[a3Z];omega) hcap21 hmax21 ?_;refine go 11 ?_;exact c6J (i+1) (_) (G) (kvs2) (fm2) (_) ⟨by omega,hJ.trans (j25.trans hJ2),hK2.congr (fun k z h=>c6j hlt hno h),hM2⟩ (by omega) rfl sb (by simp only[hGl])
 ·obtain rfl:i=l.length:=by omega
  refine go 14 ?_;refine a1F rfl rfl rfl ?_;exact a4I (fun _ m=>m) ⟨_,_,F,kvs,fm,rfl,rfl,hK.congr (fun k z h=>⟨h.1,h⟩),hM⟩
end Go.Proofs.YtdapmfkbpnjkmaaGreat
set_option linter.all false
namespace Go.Sx
open Go
def NmL (l:List Rep) (W:List (List ByteArray)):Prop:=W.length=l.length∧∀i (h1:i<W.length) (h2:i<l.length) z,z∈W[i]↔nm l[i] z
structure Lea (l:List Rep) (F:List Nat):Prop where
 len:F.length=l.length
 le:∀i (h:i<F.length),F[i]≤i
 idem:∀i (h:i<F.length) (h2:F[i]<F.length),F[F[i]]=F[i]
 sound:∀i (h:i<F.length),Lnk l i F[i]
section
variable {l:List Rep} {F:List Nat} {W:List (List ByteArray)} {i k a b:Nat}
theorem Lea.lt (h:Lea l F) (hi:i<F.length):F[i]<F.length:=Nat.lt_of_le_of_lt (h.le i hi) hi
theorem b9A (l:List Rep):Lea l (List.range l.length):=⟨by simp,fun i h=>by simp,fun i h h2=>by simp,fun i h=>by simp only[List.getElem_range];exact .refl i⟩
def a4n (F:List Nat) (hi lo:Nat):List Nat:=F.map fun x=>if x=hi then lo else x
theorem a6b (F:List Nat) (hi lo:Nat):(a4n F hi lo).length=F.length:=by simp[a4n]
theorem Lea.meet (h:Lea l F) (hi:i<F.length) (hk:k<F.length) (hne:F[i]≠F[k]) (hl:Lnk l i k):Lea l (a4n F (max F[i] F[k]) (min F[i] F[k]))∧(a4n F (max F[i] F[k]) (min F[i] F[k])).sum<F.sum:=by
 have key:∀(A B:Nat),A<B→(∃p,∃hp:p<F.length,F[p]=A)→(∃p,∃hp:p<F.length,F[p]=B)→Lnk l A B→Lea l (a4n F B A)∧(a4n F B A).sum<F.sum:=by
  rintro A B hAB ⟨p,hp,hpA⟩ ⟨q,hq,hqB⟩ hAk
  have hA:A<F.length:=hpA▸h.lt hp
  have hFA:F[A]=A:=by have:=h.idem p hp (h.lt hp);simpa only[hpA]using this
  refine⟨⟨by rw[a6b];exact h.len,fun j hj=>?_,fun j hj hj2=>?_,fun j hj=>?_⟩,?_⟩
  ·rw[a6b]at hj
   have:=h.le j hj
   simp only[a4n,List.getElem_map]
   split<;>omega
  ·rw[a6b]at hj
   simp only[a4n,List.getElem_map]
   by_cases e:F[j]=B
   ·simp only[e,if_true,hFA]
    rw[if_neg (by omega)]
   ·simp only[if_neg e]
    rw[h.idem j hj (h.lt hj),if_neg e]
  ·rw[a6b]at hj
   simp only[a4n,List.getElem_map]
   have:=h.sound j hj
   split
   ·rename_i e;rw[e]at this;exact this.trans hAk.symm
   ·exact this
  ·have hle:∀(G:List Nat),(a4n G B A).sum≤G.sum:=fun G=>by
    induction G with
    |nil=>exact Nat.le_refl _
    |cons x G ih=>
     simp only[a4n,List.map_cons,List.sum_cons]at ih ⊢
     split<;>omega
   have hlt:∀(G:List Nat),B∈G→(a4n G B A).sum<G.sum:=fun G=>by
    induction G with
    |nil=>intro h;cases h
    |cons x G ih=>
     intro hm
     have h1:=hle G
     simp only[a4n,List.map_cons,List.sum_cons]at ih h1 ⊢
     rcases List.mem_cons.1 hm with rfl|hm
     ·rw[if_pos rfl];omega
     ·have:=ih hm
      split<;>omega
   exact hlt F (hqB▸List.getElem_mem hq)
 have l1:=h.sound i hi
 have l2:=h.sound k hk
 rcases Nat.lt_or_gt_of_ne hne with h1|h1
 ·rw[Nat.max_eq_right (Nat.le_of_lt h1),Nat.min_eq_left (Nat.le_of_lt h1)];exact key F[i] F[k] h1 ⟨i,hi,rfl⟩ ⟨k,hk,rfl⟩ ((l1.symm.trans hl).trans l2)
 ·rw[Nat.max_eq_left (Nat.le_of_lt h1),Nat.min_eq_right (Nat.le_of_lt h1)];exact key F[k] F[i] h1 ⟨k,hk,rfl⟩ ⟨i,hi,rfl⟩ ((l2.symm.trans hl.symm).trans l1)
def c4N (F:List Nat) (i:Nat):Nat:=F.getD i i
theorem a6w (h:i<F.length):c4N F i=F[i]:=by simp[c4N,List.getD,h]
theorem a8F (h:F.length≤i):c4N F i=i:=by simp[c4N,List.getD,List.getElem?_eq_none h]
theorem Lea.rts (h:Lea l F) (hq:∀i k (h1:i<F.length) (h2:k<F.length) (h3:i<l.length) (h4:k<l.length),k<i→F[i]=F[k]∨∀z,nm l[i] z→¬nm l[k] z):Rts l (c4N F):=by
 refine⟨fun i=>?_,fun i=>?_,fun {i k z} hi hk h1 h2=>?_,fun i=>?_⟩
 ·rcases Nat.lt_or_ge i F.length with hi|hi
  ·rw[a6w hi];exact h.le i hi
  ·rw[a8F hi];exact Nat.le_refl _
 ·rcases Nat.lt_or_ge i F.length with hi|hi
  ·rw[a6w hi,a6w (h.lt hi),h.idem i hi (h.lt hi)]
  ·rw[a8F hi,a8F hi]
 ·have hi':i<F.length:=by rw[h.len];exact hi
  have hk':k<F.length:=by rw[h.len];exact hk
  rw[a6w hi',a6w hk']
  rcases Nat.lt_trichotomy k i with h3|h3|h3
  ·rcases hq i k hi' hk' hi hk h3 with h4|h4
   ·exact h4
   ·exact absurd h2 (h4 z h1)
  ·subst h3;rfl
  ·rcases hq k i hk' hi' hk hi h3 with h4|h4
   ·exact h4.symm
   ·exact absurd h1 (h4 z h2)
 ·rcases Nat.lt_or_ge i F.length with hi|hi
  ·rw[a6w hi];exact h.sound i hi
  ·rw[a8F hi];exact .refl i
def a4f (F:List Nat) (hi lo j:Nat):List Nat:=a4n (F.take j) hi lo++F.drop j
theorem b0D (F:List Nat) (hi lo j:Nat):(a4f F hi lo j).length=F.length:=by simp[a4f,a4n];omega
theorem b7p {j:Nat} (F:List Nat) (hi lo:Nat) (h:F.length≤j):a4f F hi lo j=a4n F hi lo:=by
 rw[a4f,List.take_of_length_le h,List.drop_eq_nil_of_le h,List.append_nil]
theorem b9E {j:Nat} (F:List Nat) (hi lo:Nat) (h:j<F.length) (h2:j<(a4f F hi lo j).length):(a4f F hi lo j)[j]=F[j]:=by
 have e:(a4n (F.take j) hi lo).length=j:=by rw[a6b,List.length_take];omega
 simp only[a4f]
 rw[List.getElem_append_right (by omega)]
 simp[e]
theorem b7q {j:Nat} {F:List Nat} {hi lo:Nat} (h:j<F.length) (e:F[j]=hi):(a4f F hi lo j).set j lo=a4f F hi lo (j+1):=by
 have e1:(a4n (F.take j) hi lo).length=j:=by rw[a6b,List.length_take];omega
 have e2:a4n (F.take (j+1)) hi lo=a4n (F.take j) hi lo++[lo]:=by rw[←a0i h,a4n,List.map_append,List.map_cons,if_pos e];rfl
 rw[a4f,List.set_append_right _ _ (by omega),e1,Nat.sub_self,List.drop_eq_getElem_cons h,a4f,e2,List.append_assoc];rfl
theorem b9F {j:Nat} {F:List Nat} {hi lo:Nat} (h:j<F.length) (e:¬F[j]=hi):a4f F hi lo j=a4f F hi lo (j+1):=by
 have e2:a4n (F.take (j+1)) hi lo=a4n (F.take j) hi lo++[F[j]]:=by rw[←a0i h,a4n,List.map_append,List.map_cons,if_neg e];rfl
 rw[a4f,a4f,e2,List.drop_eq_getElem_cons h,List.append_assoc];rfl
theorem b9H {R:Nat→Nat} (hle:∀i,R i≤i) {n i k:Nat} (h:k≤i):a2c R k i=[]:=by
 unfold a2c;rw[List.filter_eq_nil_iff];intro j hj
 have:=List.mem_range.1 hj
 have:=hle j
 simp;omega
end
section
variable {F:List Nat} {i n:Nat} {l:List Rep}
theorem a4t (h:i<F.length):(a5b F)[i]? = some [ci ((F[i]:Nat):Int)]:=by simp[a5b,h]
theorem b2X (x:Nat):(a5b F).set i [ci (x:Int)]=a5b (F.set i x):=by simp[a5b,List.map_set]
theorem c2Q (n:Nat):(List.replicate n [ci 0]).flatten=(a5b (List.replicate n 0)).flatten:=by simp[a5b]
def b8i (n i:Nat):List Nat:=List.range i++List.replicate (n-i) 0
theorem c1l (h:i<n):(b8i n i).set i i=b8i n (i+1):=by
 have e:(List.range i).length=i:=by simp
 rw[b8i,List.set_append_right _ _ (by omega),e,Nat.sub_self,show n-i=(n-(i+1))+1 by omega,List.replicate_succ,b8i,List.range_succ,List.append_assoc];rfl
theorem c4a (h:i≤n):(b8i n i).length=n:=by simp[b8i];omega
theorem c3Z (n:Nat):b8i n n=List.range n:=by simp[b8i]
abbrev LsS:=Value×List ByteArray
def vS (n:Nat) (Q:List LsS):List (List Value):=(Q.map fun p=>[p.1])++List.replicate (n-Q.length) [Value.slice none 0 0]
theorem d0D (n:Nat) (Q:List LsS):Uk 1 (vS n Q):=by
 refine Uk.append (fun c hc=>?_) fun c hc=>?_
 ·obtain⟨x,_,rfl⟩:=List.mem_map.1 hc;rfl
 ·rw[List.eq_of_mem_replicate hc];rfl
theorem c9A {Q:List LsS} (h:Q.length≤n):(vS n Q).length=n:=by simp[vS];omega
theorem c7w {Q:List LsS} (hQ:Q.length=i) (h:i<n) (x:LsS):(vS n Q).set i [x.1]=vS n (Q++[x]):=by
 subst hQ
 have e:(Q.map fun p:LsS=>[p.1]).length=Q.length:=by simp
 rw[vS,List.set_append_right _ _ (by omega),e,Nat.sub_self,show n-Q.length=(n-(Q.length+1))+1 by omega,List.replicate_succ]
 simp[vS]
theorem c1r {I:IMap}:∀(Q:List LsS),(∀p∈Q,RdS I p.1 p.2)→Flat I (vS Q.length Q).flatten (Q.map Prod.snd)
 | [],_=>.nil
 |q::Q,h=>by
  have ih:=c1r Q fun p hp=>h p (by simp[hp])
  have e:(vS (q::Q).length (q::Q)).flatten=[q.1]++(vS Q.length Q).flatten:=by simp[vS]
  rw[e];exact .cons (vs:=[q.1]) ⟨_,rfl,h q (by simp)⟩ ih
theorem a6d {l:List ByteArray} {k:Nat} {s z:ByteArray}:z∈l.take k++([s]++l.drop k)↔z∈l∨z=s:=by
 conv=>rhs;rw[←List.take_append_drop k l]
 simp only[List.mem_append,List.mem_singleton]
 constructor
 ·rintro (h|h|h)
  ·exact .inl (.inl h)
  ·exact .inr h
  ·exact .inl (.inr h)
 ·rintro ((h|h)|h)
  ·exact .inl h
  ·exact .inr (.inr h)
  ·exact .inr (.inl h)
theorem c1S {a b:List ByteArray} {i k:Nat} (hi:i<a.length) (hk:k<b.length) (h:a[i]=b[k]):(a.any fun x=>decide (x∈b))=true:=List.any_eq_true.2 ⟨a[i],List.getElem_mem hi,by rw[h];simp⟩
theorem c1R {a b:List ByteArray} (h:∀z∈a,z∉b):(a.any fun x=>decide (x∈b))=false:=List.any_eq_false.2 fun x hx=>by simpa using h x hx
theorem a5h {α:Type} {l:List α} {i:Nat} (h:i<l.length) {z:α}:z∈l.take (i+1)↔z∈l.take i∨z=l[i]:=by
 have e:=a0i h
 rw[←e,List.mem_append,List.mem_singleton]
theorem b7t {l:List Evt} {i:Nat} (h:i<l.length) (z:ByteArray):(∃e∈l.take (i+1),z∈a1O e)↔(∃e∈l.take i,z∈a1O e)∨z∈a1O l[i]:=by
 constructor
 ·rintro⟨e,he,hz⟩
  rcases (a5h h).1 he with h|h
  ·exact .inl ⟨e,h,hz⟩
  ·exact .inr (h▸hz)
 ·rintro (⟨e,he,hz⟩|hz)
  ·exact⟨e,(a5h h).2 (.inl he),hz⟩
  ·exact⟨_,(a5h h).2 (.inr rfl),hz⟩
def d0I (l:List Rep) (F:List Nat) (i k:Nat):Prop:=∀(h1:i<F.length) (h2:k<F.length) (h3:i<l.length) (h4:k<l.length),F[i]=F[k]∨∀z,nm l[i] z→¬nm l[k] z
theorem b8J {W:List (List ByteArray)} {i k:Nat} (hW:NmL l W) (h1:i<W.length) (h2:k<W.length) (hi:i<l.length) (hk:k<l.length) (h:(W[i].any fun x=>decide (x∈W[k]))=false):∀z,nm l[i] z→¬nm l[k] z:=fun z h3 h4=>by
 have:=List.any_eq_false.1 h z ((hW.2 i h1 hi z).2 h3)
 exact this (by simpa using (hW.2 k h2 hk z).2 h4)
theorem b6W {W:List (List ByteArray)} {i k:Nat} (hW:NmL l W) (h1:i<W.length) (h2:k<W.length) (hi:i<l.length) (hk:k<l.length) (h:(W[i].any fun x=>decide (x∈W[k]))=true):Lnk l i k:=by
 obtain⟨z,hz,hz2⟩:=List.any_eq_true.1 h;exact .one hi hk ((hW.2 i h1 hi z).1 hz) ((hW.2 k h2 hk z).1 (by simpa using hz2))
def ShTo (l:List Rep) (F:List Nat) (i k:Nat):Prop:=∀i' k',(i'<i∨(i'=i∧k'<k))→k'<i'→d0I l F i' k'
theorem ShTo.zero:ShTo l F 0 0:=fun i' k' h _=>by omega
theorem ShTo.next {k:Nat} (h:ShTo l F i k) (hs:d0I l F i k):ShTo l F i (k+1):=fun i' k' h1 h2=>by
 by_cases e:i'=i∧k'=k
 ·rw[e.1,e.2];exact hs
 ·exact h i' k' (by omega) h2
theorem ShTo.row (h:ShTo l F i i):ShTo l F (i+1) 0:=fun i' k' h1 h2=>h i' k' (by omega) h2
theorem ShTo.rts (hF:Lea l F) (h:ShTo l F l.length 0):Rts l (c4N F):=hF.rts fun i k h1 h2 h3 h4 h5=>h i k (.inl h3) h5 h1 h2 h3 h4
def NmQ (l:List Rep) (Q:List LsS):Prop:=∀k (h:k<Q.length) (h2:k<l.length),a5v l[k] Q[k].2
theorem NmQ.nil:NmQ l []:=fun k h=>by cases h
theorem NmQ.next {Q:List LsS} {x:LsS} (h:NmQ l Q) (hQ:Q.length=i) (hi:i<l.length) (hn:a5v l[i] x.2):NmQ l (Q++[x]):=fun k h1 h2=>by
 subst hQ
 rcases Nat.lt_or_ge k Q.length with hk|hk
 ·rw[List.getElem_append_left hk];exact h k hk h2
 ·obtain rfl:k=Q.length:=by rw[List.length_append,List.length_singleton]at h1;omega
  rw[List.getElem_append_right (Nat.le_refl _)];simpa using hn
theorem NmQ.nml {Q:List LsS} (h:NmQ l Q) (hl:Q.length=l.length):NmL l (Q.map Prod.snd):=⟨by simp[hl],fun i h1 h2 z=>by
 rw[List.getElem_map]
 exact b9P (h i (by simpa using h1) h2) z⟩
theorem b9z {R:Nat→Nat} (h:c4N F=R) (hi:i<F.length):F[i]=R i:=by rw[←h,a6w hi]
theorem b3u {R:Nat→Nat} {n:Nat} (h:R n=n):a1k R (n+1)=a1k R n++[n]:=by rw[b0N,if_pos h]
theorem b6o {R:Nat→Nat} {n:Nat} (h:¬R n=n):a1k R (n+1)=a1k R n:=by rw[b0N,if_neg h]
theorem c2N {R:Nat→Nat} {n r:Nat} (h:R n=r):a2c R (n+1) r=a2c R n r++[n]:=by rw[a5i,if_pos h]
theorem c6l {R:Nat→Nat} {n r:Nat} (h:¬R n=r):a2c R (n+1) r=a2c R n r:=by rw[a5i,if_neg h]
theorem b6n {R:Nat→Nat} {n:Nat}:(a1k R n).length≤n:=by
 unfold a1k;exact Nat.le_trans (List.length_filter_le _ _) (by simp)
end
end Go.Sx
set_option linter.all false
namespace Go.Sx
open Go
abbrev Row:=Nat×List Bool
section
variable {Q:List Row} {rest:List (List Value)} {k:Nat}
end
section
variable {P:Program} {n:Sz} {E:Ent} {I:IMap} {L:LL} {H:List Res} {K:Act→World→Prop} {e:Nat}
end
section
variable {c:List Kind} {l:List Rep} {R:Nat→Nat} {i j n r:Nat}
theorem b4c (h:j<(a1k R n).length) (h2:j<((a5J R n).map nI).length):((a5J R n).map nI)[j]=nI (a2c R n (a1k R n)[j]):=by simp[a5J]
end
theorem FnV.cast {P:Program} {f:FuncId} {args:Array Value} {I:IMap} {v u:Value} (h:FnV P f args I v) (e:v=u):FnV P f args I u:=e▸h
section
variable {Q:List Row} {M:Nat→Int→Bool} {l:List Rep} {i n g q:Nat} {k:Int} {c:List Kind}
theorem b9I {R:Nat→Nat} {n r:Nat}:(a2c R n r).length≤n:=by
 unfold a2c;exact Nat.le_trans (List.length_filter_le _ _) (by simp)
end
end Go.Sx
namespace Go.Proofs.YtdapmfkbpnjkmaaGreat
open Go Go.Sx
set_option linter.all false
set_option maxRecDepth 20000
set_option maxHeartbeats 4000000
theorem b7L (I:IMap) (e:Evt) (hs:SmE e) :
    FnI Tryz.prog 169 #[.agg e.cells.toArray] I (fun u J=>RdS J u (a1O e)):=by
 refine enter Tryz.func169 Tryz.call169 rfl Tryz.ntmps169 rfl (fun w0=>?_);refine go 3 ?_;refine a0B _ rfl rfl rfl (fun g1=>?_);refine go 8 ?_;refine a0d (a7Q _ e hs) rfl rfl ?_;refine go 3 ?_;refine cb rfl (fun h5 p5=>?_) (fun h5 p5=>?_)
 ·refine go 7 ?_;refine a0s rfl rfl ?_;exact q_i (by simp only[a1O,show a1t e=false by simpa using h5,if_true];exact RdS.nil')
 ·have hve:a1t e=true:=by simpa using h5
  refine go 10 ?_;refine cb rfl (fun h8 p8=>?_) (fun h8 p8=>?_)
  ·refine go 5 ?_;refine a0c he he rfl rfl rfl rfl rfl rfl rfl (fun v11=>?_);refine a0l (l:=[e.part]) rfl rfl (.one rfl) (fun I11 j11 R11=>?_);refine go 5 ?_;refine a0s rfl rfl ?_;exact q_i (by simp only[a1O,hve,p8,if_true,if_false,Bool.true_eq_false];exact R11)
  ·refine go 8 ?_;refine o_v rfl (c5h rfl rfl) ?_;refine go 4 ?_;refine o_v rfl (c5g rfl rfl) ?_;refine go 1 ?_;refine a0c he he rfl rfl rfl rfl rfl rfl rfl (fun v22=>?_);refine a0l (l:=[c9W e.part e.into,c9V e.part e.into]) rfl rfl (.cons rfl (.one rfl)) (fun I22 j22 R22=>?_);refine go 4 ?_;refine a0s rfl rfl ?_;exact q_i (by simp only[a1O,hve,show e.op=2 by omega,if_true,if_false,Bool.true_eq_false];exact R22)
theorem c3s (I:IMap) (v:Value) (l:List ByteArray) (hv:RdS I v l) (hl:l.length≤1000) (s:ByteArray) :
    FnI Tryz.prog 170 #[v,.string s] I (fun u J=>∃ns,RdS J u ns∧ns.length≤l.length+1∧∀z,z∈ns↔z∈l∨z=s):=by
 have hv0:=hv
 obtain⟨A,c0,rfl,hA,hc,hm⟩:=hv;refine enter Tryz.func170 Tryz.call170 rfl Tryz.ntmps170 rfl (fun w0=>?_);refine go 11 ?_;refine a5d (α:=Nat) (Ix:=(fun k=>I)) (Lx:=(fun k=>[(0,.slice A l.length c0),(1,.string s),(5,.int .i64 ((k:Nat):Int))])) (Hx:=(fun k=>[])) (p:=(fun k=>k≤l.length)) ?_ ?_
 ·refine go 1 ?_
  refine a0Q (α:=Nat) 0 (fun k=>I)
   (fun k=>[(0,.slice A l.length c0),(1,.string s),(5,.int .i64 ((k:Nat):Int))])
   (fun k=>[])
   (fun k=>k≤l.length)
   (fun k=>l.length-k) (Nat.zero_le _) rfl sb rfl ?_
  intro k hk;refine go 8 ?_;refine sxb 10 rfl (fun h10 p10=>?_) (fun h10 p10=>?_)
  ·have hlt:k<l.length:=by omega
   refine go 2 ?_;obtain⟨b13,o13,w13,e13,c13,r13⟩:=RdA.at_ hA (i:=k) (by omega);obtain rfl:=r13;refine a1d (a0R rfl rfl h10 (a0t rfl (a0h he rfl rfl e13 (k) (by omega) (by omega)) ?_));refine a1d (a0R rfl rfl h10 (a0t rfl (a0K he rfl (c13 0 _ rfl)) ?_));refine go 5 ?_;refine cb rfl (fun h17 p17=>?_) (fun h17 p17=>?_)
   ·refine go 10 ?_;exact a0M (k+1) (by omega) (by omega) rfl sb rfl
   ·refine go 5 ?_;exact a2a k hk sb rfl rfl
  ·refine go 9 ?_;refine a0T rfl ?_;refine go 5 ?_;exact a2a k hk sb rfl rfl
 ·intro k hk;refine go 8 ?_;refine sxb 24 rfl (fun h24 p24=>?_) (fun h24 p24=>?_)
  ·have hlt:k<l.length:=by omega
   refine go 2 ?_;obtain⟨b27,o27,w27,e27,c27,r27⟩:=RdA.at_ hA (i:=k) (by omega);obtain rfl:=r27;refine a1d (a0R rfl rfl h24 (a0t rfl (a0h he rfl rfl e27 (k) (by omega) (by omega)) ?_));refine a1d (a0R rfl rfl h24 (a0t rfl (a0K he rfl (c27 0 _ rfl)) ?_));refine go 5 ?_;refine cb rfl (fun h31 p31=>?_) (fun h31 p31=>?_)
   ·refine go 8 ?_;refine a0s rfl rfl ?_;exact q_i ⟨l,hv0,Nat.le_succ _,fun z=>⟨.inl,fun h=>h.elim id fun e=>by rw[e,←p31];exact List.getElem_mem hlt⟩⟩
   ·refine go 3 ?_;refine a2Z (fun hE6 hf6=>?_);refine a0F T.mixed ?_;refine a0e 1 rfl rfl (by kernel_rfl) rfl .slnil rfl (a0a rfl) ?_;refine a0e 2 rfl rfl (by kernel_rfl) rfl .slnil rfl (a0a rfl) ?_;refine a0e 3 rfl rfl (by kernel_rfl) rfl .slnil rfl (a1w he rfl rfl k rfl (by omega)) ?_;refine a0e 5 rfl rfl (by kernel_rfl) rfl .slnil rfl (a0a rfl) ?_;refine a0e 8 rfl rfl (by kernel_rfl) rfl .slnil rfl (a0a rfl) ?_;refine a0e 9 rfl rfl (by kernel_rfl) rfl .slnil rfl (a0a rfl) ?_;refine a0e 10 rfl rfl (by kernel_rfl) rfl .slnil rfl (a0S he rfl rfl k rfl (by omega)) ?_;refine a3O 0 6 (by kernel_rfl) rfl rfl ?_ ?_
    ·refine a0c he he rfl rfl rfl rfl rfl rfl rfl (fun v33=>?_);refine a0D (fun _ m=>m.keeps (.cons _ .slnil)) ?_;refine a3O 4 6 (by kernel_rfl) rfl rfl ?_ ?_
     ·refine a0y ((hv0.take k (by omega))) rfl he he rfl rfl rfl rfl (by simp;omega) (by simp;omega) rfl (fun v37 x37 f37=>?_);refine a0D (fun _ m=>m.keeps (.cons _ .slnil)) ?_;refine a0m 6 (by kernel_rfl) rfl ?_;refine a0c he he rfl rfl rfl rfl rfl rfl rfl (fun v39=>?_);refine a0D (fun _ m=>m.keeps (.cons _ (.cons _ .slnil))) ?_;refine a0m 7 (by kernel_rfl) rfl ?_;refine a0f ?_;refine a0v he he rfl rfl rfl rfl rfl (by simp;omega) (by simp;omega) rfl (fun v40=>?_);refine a0D (fun _ m=>m.keeps (.cons _ (.cons _ .slnil))) ?_;refine a0m 11 (by kernel_rfl) rfl ?_;refine a0y ((hv0.drop k (by omega))) rfl he he rfl rfl rfl rfl (by simp;omega) (by simp;omega) rfl (fun v44 x44 f44=>?_);refine a0l (l:=l.take k++[s]++l.drop k) rfl (by simp<;>omega) ((((Flat.nil.append f37).append (.one rfl)).append f44)) (fun I44 j44 R44=>?_);refine a0D (fun _ m=>m.keepsI (.cons _ .slnil) (j44) hE6 hf6) ?_;refine d_t 12 rfl rfl (by kernel_rfl) rfl (fun _ m=>m.keepsI (.cons _ .slnil) (j44) hE6 hf6) (y_v rfl (a0Y rfl)) ?_;refine a0n (by kernel_rfl) ?_;refine go 2 ?_;refine a0s rfl rfl ?_;exact q_i ⟨_,R44,by simp;omega,fun z=>by rw[List.append_assoc];exact a6d⟩
     ·refine a0c he he rfl rfl rfl rfl rfl rfl rfl (fun v39=>?_);refine a0D (fun _ m=>m.keeps (.cons _ (.cons _ .slnil))) ?_;refine a0m 4 (by kernel_rfl) rfl ?_;refine a0f ?_;refine a0y ((hv0.take k (by omega))) rfl he he rfl rfl rfl rfl (by simp;omega) (by simp;omega) rfl (fun v37 x37 f37=>?_);refine a0D (fun _ m=>m.keeps (.cons _ (.cons _ .slnil))) ?_;refine a0m 7 (by kernel_rfl) rfl ?_;refine a0f ?_;refine a0f ?_;refine a0v he he rfl rfl rfl rfl rfl (by simp;omega) (by simp;omega) rfl (fun v40=>?_);refine a0D (fun _ m=>m.keeps (.cons _ (.cons _ .slnil))) ?_;refine a0m 11 (by kernel_rfl) rfl ?_;refine a0y ((hv0.drop k (by omega))) rfl he he rfl rfl rfl rfl (by simp;omega) (by simp;omega) rfl (fun v44 x44 f44=>?_);refine a0l (l:=l.take k++[s]++l.drop k) rfl (by simp<;>omega) ((((Flat.nil.append f37).append (.one rfl)).append f44)) (fun I44 j44 R44=>?_);refine a0D (fun _ m=>m.keepsI (.cons _ .slnil) (j44) hE6 hf6) ?_;refine d_t 12 rfl rfl (by kernel_rfl) rfl (fun _ m=>m.keepsI (.cons _ .slnil) (j44) hE6 hf6) (y_v rfl (a0Y rfl)) ?_;refine a0n (by kernel_rfl) ?_;refine go 2 ?_;refine a0s rfl rfl ?_;exact q_i ⟨_,R44,by simp;omega,fun z=>by rw[List.append_assoc];exact a6d⟩
    ·refine a0c he he rfl rfl rfl rfl rfl rfl rfl (fun v39=>?_);refine a0D (fun _ m=>m.keeps (.cons _ .slnil)) ?_;refine a0m 0 (by kernel_rfl) rfl ?_;refine a0c he he rfl rfl rfl rfl rfl rfl rfl (fun v33=>?_);refine a0D (fun _ m=>m.keeps (.cons _ (.cons _ .slnil))) ?_;refine a0m 4 (by kernel_rfl) rfl ?_;refine a0y ((hv0.take k (by omega))) rfl he he rfl rfl rfl rfl (by simp;omega) (by simp;omega) rfl (fun v37 x37 f37=>?_);refine a0D (fun _ m=>m.keeps (.cons _ (.cons _ .slnil))) ?_;refine a0m 7 (by kernel_rfl) rfl ?_;refine a0f ?_;refine a0f ?_;refine a0v he he rfl rfl rfl rfl rfl (by simp;omega) (by simp;omega) rfl (fun v40=>?_);refine a0D (fun _ m=>m.keeps (.cons _ (.cons _ .slnil))) ?_;refine a0m 11 (by kernel_rfl) rfl ?_;refine a0y ((hv0.drop k (by omega))) rfl he he rfl rfl rfl rfl (by simp;omega) (by simp;omega) rfl (fun v44 x44 f44=>?_);refine a0l (l:=l.take k++[s]++l.drop k) rfl (by simp<;>omega) ((((Flat.nil.append f37).append (.one rfl)).append f44)) (fun I44 j44 R44=>?_);refine a0D (fun _ m=>m.keepsI (.cons _ .slnil) (j44) hE6 hf6) ?_;refine d_t 12 rfl rfl (by kernel_rfl) rfl (fun _ m=>m.keepsI (.cons _ .slnil) (j44) hE6 hf6) (y_v rfl (a0Y rfl)) ?_;refine a0n (by kernel_rfl) ?_;refine go 2 ?_;refine a0s rfl rfl ?_;exact q_i ⟨_,R44,by simp;omega,fun z=>by rw[List.append_assoc];exact a6d⟩
  ·refine go 9 ?_;refine a0T rfl ?_;refine go 3 ?_;refine a2Z (fun hE6 hf6=>?_);refine a0F T.mixed ?_;refine a0e 1 rfl rfl (by kernel_rfl) rfl .slnil rfl (a0a rfl) ?_;refine a0e 2 rfl rfl (by kernel_rfl) rfl .slnil rfl (a0a rfl) ?_;refine a0e 3 rfl rfl (by kernel_rfl) rfl .slnil rfl (a1w he rfl rfl k rfl (by omega)) ?_;refine a0e 5 rfl rfl (by kernel_rfl) rfl .slnil rfl (a0a rfl) ?_;refine a0e 8 rfl rfl (by kernel_rfl) rfl .slnil rfl (a0a rfl) ?_;refine a0e 9 rfl rfl (by kernel_rfl) rfl .slnil rfl (a0a rfl) ?_;refine a0e 10 rfl rfl (by kernel_rfl) rfl .slnil rfl (a0S he rfl rfl k rfl (by omega)) ?_;refine a3O 0 6 (by kernel_rfl) rfl rfl ?_ ?_
   ·refine a0c he he rfl rfl rfl rfl rfl rfl rfl (fun v33=>?_);refine a0D (fun _ m=>m.keeps (.cons _ .slnil)) ?_;refine a3O 4 6 (by kernel_rfl) rfl rfl ?_ ?_
    ·refine a0y ((hv0.take k (by omega))) rfl he he rfl rfl rfl rfl (by simp;omega) (by simp;omega) rfl (fun v37 x37 f37=>?_);refine a0D (fun _ m=>m.keeps (.cons _ .slnil)) ?_;refine a0m 6 (by kernel_rfl) rfl ?_;refine a0c he he rfl rfl rfl rfl rfl rfl rfl (fun v39=>?_);refine a0D (fun _ m=>m.keeps (.cons _ (.cons _ .slnil))) ?_;refine a0m 7 (by kernel_rfl) rfl ?_;refine a0f ?_;refine a0v he he rfl rfl rfl rfl rfl (by simp;omega) (by simp;omega) rfl (fun v40=>?_);refine a0D (fun _ m=>m.keeps (.cons _ (.cons _ .slnil))) ?_;refine a0m 11 (by kernel_rfl) rfl ?_;refine a0y ((hv0.drop k (by omega))) rfl he he rfl rfl rfl rfl (by simp;omega) (by simp;omega) rfl (fun v44 x44 f44=>?_);refine a0l (l:=l.take k++[s]++l.drop k) rfl (by simp<;>omega) ((((Flat.nil.append f37).append (.one rfl)).append f44)) (fun I44 j44 R44=>?_);refine a0D (fun _ m=>m.keepsI (.cons _ .slnil) (j44) hE6 hf6) ?_;refine d_t 12 rfl rfl (by kernel_rfl) rfl (fun _ m=>m.keepsI (.cons _ .slnil) (j44) hE6 hf6) (y_v rfl (a0Y rfl)) ?_;refine a0n (by kernel_rfl) ?_;refine go 2 ?_;refine a0s rfl rfl ?_;exact q_i ⟨_,R44,by simp;omega,fun z=>by rw[List.append_assoc];exact a6d⟩
    ·refine a0c he he rfl rfl rfl rfl rfl rfl rfl (fun v39=>?_);refine a0D (fun _ m=>m.keeps (.cons _ (.cons _ .slnil))) ?_;refine a0m 4 (by kernel_rfl) rfl ?_;refine a0f ?_;refine a0y ((hv0.take k (by omega))) rfl he he rfl rfl rfl rfl (by simp;omega) (by simp;omega) rfl (fun v37 x37 f37=>?_);refine a0D (fun _ m=>m.keeps (.cons _ (.cons _ .slnil))) ?_;refine a0m 7 (by kernel_rfl) rfl ?_;refine a0f ?_;refine a0f ?_;refine a0v he he rfl rfl rfl rfl rfl (by simp;omega) (by simp;omega) rfl (fun v40=>?_);refine a0D (fun _ m=>m.keeps (.cons _ (.cons _ .slnil))) ?_;refine a0m 11 (by kernel_rfl) rfl ?_;refine a0y ((hv0.drop k (by omega))) rfl he he rfl rfl rfl rfl (by simp;omega) (by simp;omega) rfl (fun v44 x44 f44=>?_);refine a0l (l:=l.take k++[s]++l.drop k) rfl (by simp<;>omega) ((((Flat.nil.append f37).append (.one rfl)).append f44)) (fun I44 j44 R44=>?_);refine a0D (fun _ m=>m.keepsI (.cons _ .slnil) (j44) hE6 hf6) ?_;refine d_t 12 rfl rfl (by kernel_rfl) rfl (fun _ m=>m.keepsI (.cons _ .slnil) (j44) hE6 hf6) (y_v rfl (a0Y rfl)) ?_;refine a0n (by kernel_rfl) ?_;refine go 2 ?_;refine a0s rfl rfl ?_;exact q_i ⟨_,R44,by simp;omega,fun z=>by rw[List.append_assoc];exact a6d⟩
   ·refine a0c he he rfl rfl rfl rfl rfl rfl rfl (fun v39=>?_);refine a0D (fun _ m=>m.keeps (.cons _ .slnil)) ?_;refine a0m 0 (by kernel_rfl) rfl ?_;refine a0c he he rfl rfl rfl rfl rfl rfl rfl (fun v33=>?_);refine a0D (fun _ m=>m.keeps (.cons _ (.cons _ .slnil))) ?_;refine a0m 4 (by kernel_rfl) rfl ?_;refine a0y ((hv0.take k (by omega))) rfl he he rfl rfl rfl rfl (by simp;omega) (by simp;omega) rfl (fun v37 x37 f37=>?_);refine a0D (fun _ m=>m.keeps (.cons _ (.cons _ .slnil))) ?_;refine a0m 7 (by kernel_rfl) rfl ?_;refine a0f ?_;refine a0f ?_;refine a0v he he rfl rfl rfl rfl rfl (by simp;omega) (by simp;omega) rfl (fun v40=>?_);refine a0D (fun _ m=>m.keeps (.cons _ (.cons _ .slnil))) ?_;refine a0m 11 (by kernel_rfl) rfl ?_;refine a0y ((hv0.drop k (by omega))) rfl he he rfl rfl rfl rfl (by simp;omega) (by simp;omega) rfl (fun v44 x44 f44=>?_);refine a0l (l:=l.take k++[s]++l.drop k) rfl (by simp<;>omega) ((((Flat.nil.append f37).append (.one rfl)).append f44)) (fun I44 j44 R44=>?_);refine a0D (fun _ m=>m.keepsI (.cons _ .slnil) (j44) hE6 hf6) ?_;refine d_t 12 rfl rfl (by kernel_rfl) rfl (fun _ m=>m.keepsI (.cons _ .slnil) (j44) hE6 hf6) (y_v rfl (a0Y rfl)) ?_;refine a0n (by kernel_rfl) ?_;refine go 2 ?_;refine a0s rfl rfl ?_;exact q_i ⟨_,R44,by simp;omega,fun z=>by rw[List.append_assoc];exact a6d⟩
theorem b0M (I:IMap) (r:Rep) (S:Option Addr) (d:Nat) (hr:RdS I (.slice S r.options.length d) r.options) (hs:∀e∈r.options,SmE e) :
    FnI Tryz.prog 101 #[.agg (r.cells (.slice S r.options.length d)).toArray] I (fun u J=>∃ns,RdS J u ns∧a5v r ns):=by
 have hSA:RdA I S r.options:=hr.toA
 have hl5:=hr.lenLe
 have hl4:d≤9223372036854775807:=(by obtain⟨_,_,e,h,h1,h2⟩:=hr;cases e;exact h2)
 refine enter Tryz.func101 Tryz.call101 rfl Tryz.ntmps101 rfl (fun w0=>?_);refine go 3 ?_;refine a0B _ rfl rfl rfl (fun g1=>?_);refine go 8 ?_;refine a0d (a6e _ r S d hr hs) rfl rfl ?_;refine go 3 ?_;refine cb rfl (fun h9 p9=>?_) (fun h9 p9=>?_)
 ·refine go 7 ?_;refine a0s rfl rfl ?_;exact q_i ⟨[],RdS.nil',b0H (by simpa using h9)⟩
 ·have hvr:a0w r=true:=by simpa using h9
  have hvl:=a2S hvr
  refine go 14 ?_
  refine a3B ((0:Nat)) (_) ([]) (I) (fun i v3 ns J=>J)
   (fun i v3 ns J=>[(1,.pointer (some ⟨g1,0,none⟩)),(3,v3),(4,.int .i64 ((i:Nat):Int))])
   (fun i v3 ns J=>[.blk g1 64 (r.cells (.slice S r.options.length d))])
   (fun i v3 ns J=>i≤r.options.length∧ILe I J∧RdS J v3 ns∧ns.length≤2 * i∧∀z,z∈ns↔∃e∈r.options.take i,z∈a1O e)
   (fun i v3 ns J=>r.options.length-i) ⟨Nat.zero_le _,ILe.refl _,RdS.nil',Nat.le_refl _,fun z=>by simp⟩ rfl sb rfl ?_
  intro i v3 ns J ⟨hi,hJ,hv3,hn3,hns⟩
  have hSA:=hSA.le hJ
  refine go 10 ?_;refine cb rfl (fun h14 p14=>?_) (fun h14 p14=>?_)
  ·have hlt:i<r.options.length:=by omega
   have hn2:=(b0G (a3a hvr _ (List.getElem_mem hlt))).2
   refine go 9 ?_;obtain⟨b20,o20,w20,e20,c20,r20⟩:=RdA.at_ hSA (i:=i) hlt;obtain rfl:=r20;refine o_v rfl (a0h he rfl rfl e20 (i) (by omega) hlt) ?_;refine o_v rfl (a0G he rfl c20 rfl) ?_;refine go 1 ?_;refine a0O (b7L _ r.options[i] (hs _ (List.getElem_mem hlt))) rfl rfl (fun v22 I22 j22 q22=>?_)
   try have hSA:=hSA.le j22
   try have hv3:=hv3.le j22
   obtain⟨NA,nc,rfl,hNA,_,_⟩:=id q22;refine go 9 ?_
   refine a3B ((0:Nat)) (v3) (ns) (I22) (fun j v6 ns2 J2=>J2)
    (fun j v6 ns2 J2=>[(1,.pointer (some ⟨g1,0,none⟩)),(3,v6),(4,.int .i64 ((i:Nat):Int)),(5,.slice NA (a1O r.options[i]).length nc),(6,.int .i64 ((j:Nat):Int))])
    (fun j v6 ns2 J2=>[.blk g1 64 (r.cells (.slice S r.options.length d))])
    (fun j v6 ns2 J2=>j≤(a1O r.options[i]).length∧ILe I22 J2∧RdS J2 v6 ns2∧ns2.length≤2 * i+j∧∀z,z∈ns2↔(∃e∈r.options.take i,z∈a1O e)∨z∈(a1O r.options[i]).take j)
    (fun j v6 ns2 J2=>(a1O r.options[i]).length-j) ⟨Nat.zero_le _,ILe.refl _,hv3,hn3,fun z=>by simp[hns z]⟩ rfl sb rfl ?_
   intro j v6 ns2 J2 ⟨hj,hJ2,hv6,hn6,hns2⟩
   have hNA:=hNA.le hJ2
   refine go 9 ?_;refine cb rfl (fun h26 p26=>?_) (fun h26 p26=>?_)
   ·have hlj:j<(a1O r.options[i]).length:=by omega
    refine go 8 ?_;obtain⟨b32,o32,w32,e32,c32,r32⟩:=RdA.at_ hNA (i:=j) (by omega);obtain rfl:=r32;refine o_v rfl (a0h he rfl rfl e32 (j) (by omega) (by omega)) ?_;refine o_v rfl (a0K he rfl (c32 0 _ rfl)) ?_;refine go 1 ?_;refine a0O (c3s _ v6 ns2 hv6 (by omega) (a1O r.options[i])[j]) rfl rfl (fun v34 I34 j34 q34=>?_);obtain⟨ns3,q34,hl3,hns3⟩:=q34;refine go 10 ?_;exact a1N (j+1) (_) (ns3) (_) ⟨by omega,hJ2.trans j34,q34,by omega,fun z=>(hns3 z).trans (by rw[hns2 z,a5h hlj,or_assoc])⟩ (by omega) rfl sb rfl
   ·obtain rfl:j=(a1O r.options[i]).length:=by omega
    rw[List.take_length]at hns2
    refine go 12 ?_;exact a1N (i+1) (v6) (ns2) (_) ⟨by omega,hJ.trans (j22.trans hJ2),hv6,by omega,fun z=>(hns2 z).trans (b7t hlt z).symm⟩ (by omega) rfl sb rfl
  ·obtain rfl:i=r.options.length:=by omega
   rw[List.take_length]at hns
   refine go 12 ?_;refine a0s rfl rfl ?_;exact q_i ⟨ns,hv3,fun z=>(hns z).trans ⟨fun h=>⟨hvr,h⟩,fun h=>h.2⟩,by omega⟩
theorem a9K (I:IMap) (v:Value) (l:List ByteArray) (hv:RdS I v l) (w:Value) (m:List ByteArray) (hw:RdS I w m) :
    FnV Tryz.prog 100 #[v,w] I (.bool (l.any fun x=>decide (x∈m))):=by
 have hv0:=hv
 obtain⟨A,c0,rfl,hA,hc,hm⟩:=hv;obtain⟨B,c1,rfl,hB,hc1,hm1⟩:=hw;refine enter Tryz.func100 Tryz.call100 rfl Tryz.ntmps100 rfl (fun w0=>?_);refine go 12 ?_
 refine a0Q (α:=Nat) 0 (fun i=>I)
  (fun i=>[(0,.slice A l.length c0),(1,.slice B m.length c1),(5,.int .i64 ((i:Nat):Int))])
  (fun i=>[])
  (fun i=>i≤l.length∧∀x∈l.take i,x∉m)
  (fun i=>l.length-i) ⟨Nat.zero_le _,by simp⟩ rfl sb rfl ?_
 intro i ⟨hi,hn⟩;refine go 9 ?_;refine cb rfl (fun h10 p10=>?_) (fun h10 p10=>?_)
 ·have hlt:i<l.length:=by omega
  refine go 10 ?_
  refine a0Q (α:=Nat) 0 (fun k=>I)
   (fun k=>[(0,.slice A l.length c0),(1,.slice B m.length c1),(5,.int .i64 ((i:Nat):Int)),(6,.int .i64 ((k:Nat):Int))])
   (fun k=>[])
   (fun k=>k≤m.length∧l[i]∉m.take k)
   (fun k=>m.length-k) ⟨Nat.zero_le _,by simp⟩ rfl sb rfl ?_
  intro k ⟨hk,hq⟩;refine go 9 ?_;refine cb rfl (fun h16 p16=>?_) (fun h16 p16=>?_)
  ·have hlk:k<m.length:=by omega
   refine go 5 ?_;refine a0F T.mixed ?_;refine a0e 0 rfl rfl (by kernel_rfl) rfl .slnil rfl (a0a rfl) ?_;refine a0e 1 rfl rfl (by kernel_rfl) rfl .slnil rfl (a0a rfl) ?_;obtain⟨b21,o21,w21,e21,c21,r21⟩:=RdA.at_ hA (i:=i) (by omega);obtain rfl:=r21;refine a0e 2 rfl rfl (by kernel_rfl) rfl .slnil rfl (a0h he rfl rfl e21 (i) (by omega) (by omega)) ?_;refine a0e 3 rfl rfl (by kernel_rfl) rfl .slnil rfl (a0K he rfl (c21 0 _ rfl)) ?_;refine a0e 4 rfl rfl (by kernel_rfl) rfl .slnil rfl (a0a rfl) ?_;refine a0e 5 rfl rfl (by kernel_rfl) rfl .slnil rfl (a0a rfl) ?_;obtain⟨b25,o25,w25,e25,c25,r25⟩:=RdA.at_ hB (i:=k) (by omega);obtain rfl:=r25;refine a0e 6 rfl rfl (by kernel_rfl) rfl .slnil rfl (a0h he rfl rfl e25 (k) (by omega) (by omega)) ?_;refine a0e 7 rfl rfl (by kernel_rfl) rfl .slnil rfl (a0K he rfl (c25 0 _ rfl)) ?_;refine a0e 8 rfl rfl (by kernel_rfl) rfl .slnil rfl (a5E rfl rfl) ?_;refine a0n (by kernel_rfl) ?_;refine go 1 ?_;refine cb rfl (fun h27 p27=>?_) (fun h27 p27=>?_)
   ·refine go 15 ?_;refine a0s rfl rfl ?_;exact q_v (congrArg Value.bool (c1S hlt hlk p27).symm)
   ·refine go 9 ?_;exact a0M (k+1) ⟨by omega,fun h=>((a5h hlk).1 h).elim hq p27⟩ (by omega) rfl sb rfl
  ·obtain rfl:k=m.length:=by omega
   rw[List.take_length]at hq
   refine go 12 ?_
   exact a0M (i+1) ⟨by omega,fun x hx=>by
     rcases (a5h hlt).1 hx with h|h
     · exact hn x h
     · rw[h];exact hq⟩ (by omega) rfl sb rfl
 ·obtain rfl:i=l.length:=by omega
  rw[List.take_length]at hn
  refine go 11 ?_;refine a0s rfl rfl ?_;exact q_v (congrArg Value.bool (c1R hn).symm)
theorem b7P (I:IMap) (v:Value) (l:List Rep) (hv:RdS I v l) (hl:l.length≤1000000) (hsl:∀r∈l,∀e∈r.options,SmE e) (R:Nat→Nat) (hRt:Rts l R) :
    FnI Tryz.prog 99 #[v] I (fun u J=>RdS J u ((a5J R l.length).map nI)):=by
 have hv0:=hv
 obtain⟨A,c0,rfl,hA,hc,hm⟩:=hv;refine enter Tryz.func99 Tryz.call99 rfl Tryz.ntmps99 rfl (fun w0=>?_);refine go 10 ?_;refine a4D he he rfl rfl rfl (by omega) (by omega) rfl (fun g18=>?_);refine a3o (a5b (b8i l.length 0)).flatten (by rw[b8i,List.range_zero,List.nil_append,Nat.sub_zero];exact c2Q _) ?_;refine go 8 ?_;refine a4D he he rfl rfl rfl (by omega) (by omega) rfl (fun g21=>?_);refine go 10 ?_
 refine a2L ((0:Nat)) ([]) (I) (fun i Q J=>J)
  (fun i Q J=>[(0,.slice A l.length c0),(3,.slice (some ⟨g18,0,none⟩) l.length l.length),(4,.slice (some ⟨g21,0,none⟩) l.length l.length),(5,.int .i64 ((i:Nat):Int))])
  (fun i Q J=>[.blk g21 33 (vS l.length Q).flatten,.blk g18 3 (a5b (b8i l.length i)).flatten])
  (fun i Q J=>i≤l.length∧ILe I J∧List.length Q=i∧(∀p∈Q,RdS J (p:LsS).1 p.2)∧NmQ l Q)
  (fun i Q J=>l.length-i) ⟨Nat.zero_le _,ILe.refl _,rfl,fun p hp=>(by cases hp),NmQ.nil⟩ rfl sb rfl ?_
 intro i Q J ⟨hi,hJ,hQi,hQr,hQn⟩
 have hv0:=hv0.le hJ
 have hA:=hA.le hJ
 refine go 9 ?_;refine cb rfl (fun h25 p25=>?_) (fun h25 p25=>?_)
 ·have hlt:i<l.length:=by omega
  refine go 9 ?_;refine o_v rfl (a0h he rfl rfl rfl (i) (by omega) (by omega)) ?_;refine go 1 ?_;refine a0f ?_;refine a1Y _ (i) (a2j _) he rfl rfl rfl rfl rfl (by omega) (by rw[a3Z,c4a hi];omega) ?_;refine a3o (a5b (b8i l.length (i+1))).flatten (by rw[b2X,c1l hlt]) ?_;refine go 7 ?_;obtain⟨b36,o36,w36,e36,c36,r36⟩:=RdA.at_ hA (i:=i) (by omega);obtain⟨q36,rfl,S36,d36,rfl,hS36,hd36,hm36⟩:=r36;refine o_v rfl (a0h he rfl rfl e36 (i) (by omega) (by omega)) ?_;refine o_v rfl (a0G he rfl c36 rfl) ?_;refine go 1 ?_;refine a0O (b0M _ l[i] S36 d36 ⟨_,_,rfl,hS36,hd36,hm36⟩ (hsl _ (List.getElem_mem hlt))) rfl rfl (fun v38 I38 j38 q38=>?_)
  try have hv0:=hv0.le j38
  try have hA:=hA.le j38
  obtain⟨ns,q38,hno⟩:=q38;obtain⟨NA,nc,rfl,_,_,_⟩:=id q38;refine o_v rfl (a0h he rfl rfl rfl (i) (by omega) (by omega)) ?_;refine go 1 ?_;refine a0f ?_;refine a1Y _ (i) (d0D _ _) he rfl rfl rfl rfl rfl (by omega) (by rw[c9A (by omega)];omega) ?_;refine a3o (vS l.length (Q++[(.slice NA ns.length nc,ns)])).flatten (by rw[←c7w hQi hlt (.slice NA ns.length nc,ns)]) ?_;refine go 9 ?_;exact a1M (i+1) ((Q++[(.slice NA ns.length nc,ns)])) (_) ⟨by omega,hJ.trans j38,by simp[hQi],fun p hp=>(List.mem_append.1 hp).elim (fun h=>(hQr p h).le j38) (fun h=>by rw[List.mem_singleton.1 h];exact q38),hQn.next hQi hlt hno⟩ (by omega) rfl sb rfl
 ·obtain rfl:i=l.length:=by omega
  rw[c3Z]
  have hN:=hQn.nml hQi
  refine a1Q (fun Ig21 jg21 cg21=>?_)
  try have hv0:=hv0.le jg21
  try have hA:=hA.le jg21
  rw[←hQi]at cg21
  obtain⟨W,hWq⟩:∃W,W=Q.map Prod.snd:=⟨_,rfl⟩;rw[←hWq]at hN
  have hW:RdA Ig21 (some ⟨g21,0,none⟩) W:=by rw[hWq];exact Flat.rda (c1r Q fun p hp=>(hQr p hp).le jg21) cg21
  have hWl:W.length=l.length:=by rw[hWq,List.length_map,hQi]
  refine go 12 ?_
  refine a1z (true) ((List.range l.length)) (fun b F=>Ig21)
   (fun b F=>[(0,.slice A l.length c0),(3,.slice (some ⟨g18,0,none⟩) l.length l.length),(4,.slice (some ⟨g21,0,none⟩) l.length l.length),(6,.bool b)])
   (fun b F=>[.blk g18 3 (a5b F).flatten])
   (fun b F=>Lea l F∧(b=false→ShTo l F l.length 0))
   (fun b F=>if b=true then F.sum+1 else 0) ⟨b9A l,fun h=>by cases h⟩ rfl sb rfl ?_
  intro b F ⟨hF,hb⟩
  have hFl:=hF.len
  refine go 6 ?_;refine cb rfl (fun h40 p40=>?_) (fun h40 p40=>?_)
  ·refine go 14 ?_
   refine a2L ((0:Nat)) (false) (F) (fun i b2 G=>Ig21)
    (fun i b2 G=>[(0,.slice A l.length c0),(3,.slice (some ⟨g18,0,none⟩) l.length l.length),(4,.slice (some ⟨g21,0,none⟩) l.length l.length),(6,.bool b2),(7,.int .i64 ((i:Nat):Int))])
    (fun i b2 G=>[.blk g18 3 (a5b G).flatten])
    (fun i b2 G=>i≤l.length∧Lea l G∧(b2=false→G=F∧ShTo l G i 0)∧(b2=true→G.sum<F.sum))
    (fun i b2 G=>l.length-i) ⟨Nat.zero_le _,hF,fun _=>⟨rfl,ShTo.zero⟩,fun h=>by cases h⟩ rfl sb rfl ?_
   intro i b2 G ⟨hi,hG,hb2,hs2⟩
   have hGl:=hG.len
   refine go 9 ?_;refine cb rfl (fun h44 p44=>?_) (fun h44 p44=>?_)
   ·have hlt:i<l.length:=by omega
    refine go 10 ?_
    refine a2L ((0:Nat)) (b2) (G) (fun k b3 G3=>Ig21)
     (fun k b3 G3=>[(0,.slice A l.length c0),(3,.slice (some ⟨g18,0,none⟩) l.length l.length),(4,.slice (some ⟨g21,0,none⟩) l.length l.length),(6,.bool b3),(7,.int .i64 ((i:Nat):Int)),(8,.int .i64 ((k:Nat):Int))])
     (fun k b3 G3=>[.blk g18 3 (a5b G3).flatten])
     (fun k b3 G3=>k≤i∧Lea l G3∧(b3=false→G3=F∧ShTo l G3 i k)∧(b3=true→G3.sum<F.sum))
     (fun k b3 G3=>i-k) ⟨Nat.zero_le _,hG,hb2,hs2⟩ rfl sb rfl ?_
    intro k b3 G3 ⟨hk,hG3,hb3,hs3⟩
    have hGl3:=hG3.len
    refine go 8 ?_;refine cb rfl (fun h49 p49=>?_) (fun h49 p49=>?_)
    ·have hlk:k<i:=by omega
     have hiG:i<G3.length:=by omega
     have hkG:k<G3.length:=by omega
     refine go 5 ?_;refine a0F T.mixed ?_;refine a0e 0 rfl rfl (by kernel_rfl) rfl (.refl _) rfl (a0a rfl) ?_;refine a0e 1 rfl rfl (by kernel_rfl) rfl (.refl _) rfl (a0a rfl) ?_;refine a0e 2 rfl rfl (by kernel_rfl) rfl (.refl _) rfl (a0h he rfl rfl rfl (i) (by omega) (by omega)) ?_;refine a0e 3 rfl rfl (by kernel_rfl) rfl (.refl _) rfl (a4m m0 (a2j _) he rfl (i) (by omega) (a4t hiG)) ?_;refine a0e 4 rfl rfl (by kernel_rfl) rfl (.refl _) rfl (a0a rfl) ?_;refine a0e 5 rfl rfl (by kernel_rfl) rfl (.refl _) rfl (a0a rfl) ?_;refine a0e 6 rfl rfl (by kernel_rfl) rfl (.refl _) rfl (a0h he rfl rfl rfl (k) (by omega) (by omega)) ?_;refine a0e 7 rfl rfl (by kernel_rfl) rfl (.refl _) rfl (a4m m0 (a2j _) he rfl (k) (by omega) (a4t hkG)) ?_;refine a0e 8 rfl rfl (by kernel_rfl) rfl (.refl _) rfl (c9C rfl rfl) ?_;refine a0e 9 rfl rfl (by kernel_rfl) rfl (.refl _) rfl (a0a rfl) ?_;refine sxb 61 rfl (fun h61 p61=>?_) (fun h61 p61=>?_)
     ·refine d_t 10 rfl rfl (by kernel_rfl) rfl (fun _ m=>m.keeps (.refl _)) (a0k rfl rfl h61 (a0a rfl)) ?_;refine d_t 11 rfl rfl (by kernel_rfl) rfl (fun _ m=>m.keeps (.refl _)) (a0k rfl rfl h61 (a0a rfl)) ?_;obtain⟨b64,o64,w64,e64,c64,r64⟩:=RdA.at_ hW (i:=i) (by omega);obtain⟨q64,rfl,S64,d64,rfl,hS64,hd64,hm64⟩:=r64;refine d_t 12 rfl rfl (by kernel_rfl) rfl (fun _ m=>m.keeps (.refl _)) (a0k rfl rfl h61 (a0h he rfl rfl e64 (i) (by omega) (by omega))) ?_;refine d_t 13 rfl rfl (by kernel_rfl) rfl (fun _ m=>m.keeps (.refl _)) (a0k rfl rfl h61 (a0K he rfl (c64 0 _ rfl))) ?_;refine d_t 14 rfl rfl (by kernel_rfl) rfl (fun _ m=>m.keeps (.refl _)) (a0k rfl rfl h61 (a0a rfl)) ?_;refine d_t 15 rfl rfl (by kernel_rfl) rfl (fun _ m=>m.keeps (.refl _)) (a0k rfl rfl h61 (a0a rfl)) ?_;obtain⟨b68,o68,w68,e68,c68,r68⟩:=RdA.at_ hW (i:=k) (by omega);obtain⟨q68,rfl,S68,d68,rfl,hS68,hd68,hm68⟩:=r68;refine d_t 16 rfl rfl (by kernel_rfl) rfl (fun _ m=>m.keeps (.refl _)) (a0k rfl rfl h61 (a0h he rfl rfl e68 (k) (by omega) (by omega))) ?_;refine d_t 17 rfl rfl (by kernel_rfl) rfl (fun _ m=>m.keeps (.refl _)) (a0k rfl rfl h61 (a0K he rfl (c68 0 _ rfl))) ?_;refine a0m 18 (by kernel_rfl) rfl ?_;refine a0R rfl rfl h61 (a0d (a9K _ _ W[i] ⟨_,_,rfl,hS64,hd64,hm64⟩ _ W[k] ⟨_,_,rfl,hS68,hd68,hm68⟩) rfl rfl ?_);refine a0D (fun _ m=>m.keeps (.refl _)) ?_;refine a0e 19 rfl rfl (by kernel_rfl) rfl (.refl _) rfl (a3g h61 rfl rfl) ?_;refine a0n (by kernel_rfl) ?_;refine go 1 ?_;refine cb rfl (fun h71 p71=>?_) (fun h71 p71=>?_)
      ·have hM:=hG3.meet hiG hkG (fun h=>p61 (by rw[h])) (b6W hN (by omega) (by omega) hlt (by omega) h71)
       refine go 1 ?_;refine a0F T.mixed ?_;refine a0e 0 rfl rfl (by kernel_rfl) rfl (.refl _) rfl (a0a rfl) ?_;refine a0e 1 rfl rfl (by kernel_rfl) rfl (.refl _) rfl (a0a rfl) ?_;refine a0e 2 rfl rfl (by kernel_rfl) rfl (.refl _) rfl (a0h he rfl rfl rfl (i) (by omega) (by omega)) ?_;refine a0e 3 rfl rfl (by kernel_rfl) rfl (.refl _) rfl (a4m m0 (a2j _) he rfl (i) (by omega) (a4t hiG)) ?_;refine a0e 4 rfl rfl (by kernel_rfl) rfl (.refl _) rfl (a0a rfl) ?_;refine a0e 5 rfl rfl (by kernel_rfl) rfl (.refl _) rfl (a0a rfl) ?_;refine a0e 6 rfl rfl (by kernel_rfl) rfl (.refl _) rfl (a0h he rfl rfl rfl (k) (by omega) (by omega)) ?_;refine a0e 7 rfl rfl (by kernel_rfl) rfl (.refl _) rfl (a4m m0 (a2j _) he rfl (k) (by omega) (a4t hkG)) ?_;refine a0e 8 rfl rfl (by kernel_rfl) rfl (.refl _) rfl (OV.cast (u:=.int .i64 ((min G3[i] G3[k]:Nat):Int)) (c9B rfl rfl) (congrArg (Value.int .i64) (by split<;>omega))) ?_;refine a0e 9 rfl rfl (by kernel_rfl) rfl (.refl _) rfl (a0Y rfl) ?_;refine a0n (by kernel_rfl) ?_;refine go 2 ?_;refine a0F T.mixed ?_;refine a0e 0 rfl rfl (by kernel_rfl) rfl (.refl _) rfl (a0a rfl) ?_;refine a0e 1 rfl rfl (by kernel_rfl) rfl (.refl _) rfl (a0a rfl) ?_;refine a0e 2 rfl rfl (by kernel_rfl) rfl (.refl _) rfl (a0h he rfl rfl rfl (i) (by omega) (by omega)) ?_;refine a0e 3 rfl rfl (by kernel_rfl) rfl (.refl _) rfl (a4m m0 (a2j _) he rfl (i) (by omega) (a4t hiG)) ?_;refine a0e 4 rfl rfl (by kernel_rfl) rfl (.refl _) rfl (a0a rfl) ?_;refine a0e 5 rfl rfl (by kernel_rfl) rfl (.refl _) rfl (a0a rfl) ?_;refine a0e 6 rfl rfl (by kernel_rfl) rfl (.refl _) rfl (a0h he rfl rfl rfl (k) (by omega) (by omega)) ?_;refine a0e 7 rfl rfl (by kernel_rfl) rfl (.refl _) rfl (a4m m0 (a2j _) he rfl (k) (by omega) (a4t hkG)) ?_;refine a0e 8 rfl rfl (by kernel_rfl) rfl (.refl _) rfl (OV.cast (u:=.int .i64 ((max G3[i] G3[k]:Nat):Int)) (c7z rfl rfl) (congrArg (Value.int .i64) (by split<;>omega))) ?_;refine a0e 9 rfl rfl (by kernel_rfl) rfl (.refl _) rfl (a0Y rfl) ?_;refine a0n (by kernel_rfl) ?_;refine go 8 ?_
       refine a0Q (α:=Nat) 0 (fun j=>Ig21)
        (fun j=>[(0,.slice A l.length c0),(3,.slice (some ⟨g18,0,none⟩) l.length l.length),(4,.slice (some ⟨g21,0,none⟩) l.length l.length),(6,.bool b3),(7,.int .i64 ((i:Nat):Int)),(8,.int .i64 ((k:Nat):Int)),(9,.int .i64 (((min G3[i] G3[k]):Nat):Int)),(10,.int .i64 (((max G3[i] G3[k]):Nat):Int)),(11,.int .i64 ((j:Nat):Int))])
        (fun j=>[.blk g18 3 (a5b (a4f G3 (max G3[i] G3[k]) (min G3[i] G3[k]) j)).flatten])
        (fun j=>j≤l.length)
        (fun j=>l.length-j) (Nat.zero_le _) rfl sb rfl ?_
       intro j hj;refine go 9 ?_;refine cb rfl (fun h93 p93=>?_) (fun h93 p93=>?_)
       ·have hlj:j<l.length:=by omega
        have hjG:j<G3.length:=by omega
        refine go 8 ?_;refine o_v rfl (a0h he rfl rfl rfl (j) (by omega) (by omega)) ?_;refine o_v rfl (OV.cast (u:=.int .i64 ((G3[j]:Nat):Int)) (a4m m0 (a2j _) he rfl (j) (by omega) (a4t (by rw[b0D];omega))) (congrArg (fun z:Nat=>Value.int .i64 (z:Int)) (b9E _ _ _ hjG _))) ?_;refine go 4 ?_;refine cb rfl (fun h101 p101=>?_) (fun h101 p101=>?_)
        ·refine go 4 ?_;refine o_v rfl (a0h he rfl rfl rfl (j) (by omega) (by omega)) ?_;refine go 1 ?_;refine a1Y _ (j) (a2j _) he rfl rfl rfl rfl rfl (by omega) (by rw[a3Z,b0D];omega) ?_;refine a3o (a5b (a4f G3 (max G3[i] G3[k]) (min G3[i] G3[k]) (j+1))).flatten (by rw[b2X,b7q hjG (by omega)]) ?_;refine go 9 ?_;exact a0M (j+1) (by omega) (by omega) rfl sb rfl
        ·refine go 9 ?_;exact a0M (j+1) (by omega) (by omega) rfl sb (by rw[b9F hjG (by omega)])
       ·obtain rfl:j=l.length:=by omega
        rw[b7p _ _ _ (by omega)];refine go 16 ?_;exact a1M (k+1) (true) ((a4n G3 (max G3[i] G3[k]) (min G3[i] G3[k]))) ⟨by omega,hM.1,fun h=>(by cases h),fun _=>by have:=hM.2;cases b3<;>simp_all<;>omega⟩ (by omega) rfl sb rfl
      ·refine go 9 ?_;exact a1M (k+1) (b3) (G3) ⟨by omega,hG3,fun h=>⟨(hb3 h).1,(hb3 h).2.next fun _ _ h3 h4=>.inr (b8J hN _ _ h3 h4 (by simpa using h71))⟩,hs3⟩ (by omega) rfl sb rfl
     ·refine d_t 10 rfl rfl (by kernel_rfl) rfl (fun _ m=>m.keeps (.refl _)) (a0A rfl rfl h61) ?_;refine d_t 11 rfl rfl (by kernel_rfl) rfl (fun _ m=>m.keeps (.refl _)) (a0A rfl rfl h61) ?_;refine d_t 12 rfl rfl (by kernel_rfl) rfl (fun _ m=>m.keeps (.refl _)) (a0A rfl rfl h61) ?_;refine d_t 13 rfl rfl (by kernel_rfl) rfl (fun _ m=>m.keeps (.refl _)) (a0A rfl rfl h61) ?_;refine d_t 14 rfl rfl (by kernel_rfl) rfl (fun _ m=>m.keeps (.refl _)) (a0A rfl rfl h61) ?_;refine d_t 15 rfl rfl (by kernel_rfl) rfl (fun _ m=>m.keeps (.refl _)) (a0A rfl rfl h61) ?_;refine d_t 16 rfl rfl (by kernel_rfl) rfl (fun _ m=>m.keeps (.refl _)) (a0A rfl rfl h61) ?_;refine d_t 17 rfl rfl (by kernel_rfl) rfl (fun _ m=>m.keeps (.refl _)) (a0A rfl rfl h61) ?_;refine d_t 18 rfl rfl (by kernel_rfl) rfl (fun _ m=>m.keeps (.refl _)) (a0A rfl rfl h61) ?_;refine a0e 19 rfl rfl (by kernel_rfl) rfl (.refl _) rfl (a3K h61 rfl) ?_;refine a0n (by kernel_rfl) ?_;refine go 1 ?_;refine a0T rfl ?_;refine go 9 ?_;exact a1M (k+1) (b3) (G3) ⟨by omega,hG3,fun h=>⟨(hb3 h).1,(hb3 h).2.next fun _ _ _ _=>.inl (by omega)⟩,hs3⟩ (by omega) rfl sb rfl
    ·obtain rfl:i=k:=by omega
     refine go 12 ?_;exact a1M (i+1) (b3) (G3) ⟨by omega,hG3,fun h=>⟨(hb3 h).1,(hb3 h).2.row⟩,hs3⟩ (by omega) rfl sb rfl
   ·obtain rfl:i=l.length:=by omega
    refine go 6 ?_;exact a0X (b2) (G) ⟨hG,fun h=>(hb2 h).2⟩ (by subst p40;cases b2<;>simp_all<;>omega) rfl sb rfl
  ·have hR:c4N F=R:=(ShTo.rts hF (hb (by simpa using p40))).uniq hRt
   refine go 7 ?_;refine a1f 65 1 ?_;refine go 10 ?_
   refine a3B ((0:Nat)) (_) ([]) (Ig21) (fun i v12 xs J=>J)
    (fun i v12 xs J=>[(0,.slice A l.length c0),(3,.slice (some ⟨g18,0,none⟩) l.length l.length),(12,v12),(13,.int .i64 ((i:Nat):Int))])
    (fun i v12 xs J=>[.row v12 65 1 (a1k R i).length xs,.blk g18 3 (a5b F).flatten])
    (fun i v12 xs J=>i≤l.length∧ILe Ig21 J∧Flat J xs (((a1k R i).map (a2c R l.length)).map nI))
    (fun i v12 xs J=>l.length-i) ⟨Nat.zero_le _,ILe.refl _,.nil⟩ rfl sb rfl ?_
   intro i v12 xs J ⟨hi,hJ,hF5⟩
   have hrl:=b6n (R:=R) (n:=i)
   refine go 9 ?_;refine cb rfl (fun h109 p109=>?_) (fun h109 p109=>?_)
   ·have hlt:i<l.length:=by omega
    have hiG:i<F.length:=by omega
    have hFR:=b9z hR hiG
    refine go 9 ?_;refine o_v rfl (a0h he rfl rfl rfl (i) (by omega) (by omega)) ?_;refine o_v rfl (a4m m1 (a2j _) he rfl (i) (by omega) (a4t hiG)) ?_;refine go 4 ?_;refine cb rfl (fun h117 p117=>?_) (fun h117 p117=>?_)
    ·have hne:¬R i=i:=by omega
     refine go 10 ?_;exact a1N (i+1) (_) (_) (_) ⟨by omega,hJ,by rw[b6o hne];exact hF5⟩ (by omega) rfl sb (by rw[b6o hne])
    ·have heq:R i=i:=by omega
     refine go 4 ?_;refine a1f 3 1 ?_;refine go 11 ?_
     refine a2L (i) (_) ([]) (fun k v14 M=>J)
      (fun k v14 M=>[(0,.slice A l.length c0),(3,.slice (some ⟨g18,0,none⟩) l.length l.length),(12,v12),(13,.int .i64 ((i:Nat):Int)),(14,v14),(15,.int .i64 ((k:Nat):Int))])
      (fun k v14 M=>[.row v14 3 1 (List.length M) (a5b M).flatten,.row v12 65 1 (a1k R i).length xs,.blk g18 3 (a5b F).flatten])
      (fun k v14 M=>i≤k∧k≤l.length∧M=a2c R k i)
      (fun k v14 M=>l.length-k) ⟨Nat.le_refl _,hi,(b9H (n:=0) hRt.le (Nat.le_refl _)).symm⟩ rfl sb rfl ?_
     intro k v14 M ⟨hik,hkl,hM⟩
     have hml:M.length≤k:=by rw[hM];exact b9I
     refine go 9 ?_;refine cb rfl (fun h122 p122=>?_) (fun h122 p122=>?_)
     ·have hlk:k<l.length:=by omega
      have hkG:k<F.length:=by omega
      have hFRk:=b9z hR hkG
      refine go 8 ?_;refine o_v rfl (a0h he rfl rfl rfl (k) (by omega) (by omega)) ?_;refine o_v rfl (a4m m2 (a2j _) he rfl (k) (by omega) (a4t hkG)) ?_;refine go 4 ?_;refine cb rfl (fun h130 p130=>?_) (fun h130 p130=>?_)
      ·have hyes:R k=i:=by omega
       refine go 4 ?_;refine a0c he he rfl rfl rfl rfl rfl rfl rfl (fun v133=>?_);refine go 1 ?_;refine a0f ?_;refine a0v he he rfl rfl rfl rfl rfl (by omega) (by omega) rfl (fun v134=>?_);refine go 10 ?_;refine a0f ?_;refine a0b ?_;exact a1M (k+1) (_) (M++[k]) ⟨by omega,by omega,by rw[c2N hyes,hM]⟩ (by omega) rfl sb (by rw[List.length_append,←b2Y];rfl)
      ·have hno:¬R k=i:=by omega
       refine go 9 ?_;exact a1M (k+1) (_) (M) ⟨by omega,by omega,by rw[c6l hno];exact hM⟩ (by omega) rfl sb rfl
     ·obtain rfl:k=l.length:=by omega
      refine go 7 ?_;refine a0l (l:=(nI M)) rfl (by rw[a4S]) (b9M M) (fun Ip jp Rp=>?_);refine go 2 ?_;rw[hM]at Rp
      obtain⟨A14,c14,rfl,_,_⟩:=id Rp;refine a0c he he rfl rfl rfl rfl rfl rfl rfl (fun v137=>?_);refine go 1 ?_;refine a0f ?_;refine a0v he he rfl rfl rfl rfl rfl (by omega) (by omega) rfl (fun v138=>?_);refine go 10 ?_;refine a0f ?_;refine a0b ?_;exact a1N (i+1) (_) (_) (_) ⟨by omega,hJ.trans jp,by rw[b3u heq,List.map_append,List.map_append];exact (hF5.le jp).append (.one ⟨_,rfl,Rp⟩)⟩ (by omega) rfl sb (by rw[b3u heq,List.length_append];rfl)
   ·obtain rfl:i=l.length:=by omega
    refine go 12 ?_;refine a0s rfl rfl ?_;refine a0f ?_;refine a0b ?_;refine a0l (l:=(a5J R l.length).map nI) rfl (by rw[List.length_map,b8K]) hF5 (fun I9 j9 R9=>?_);exact q_i R9
end Go.Proofs.YtdapmfkbpnjkmaaGreat
set_option linter.all false
namespace Go.Sx
open Go
def c1L (n:Int):Int:=max (-(1000000000000:Int)) (min n (1000000000000:Int))
def a4C (i:Ivl):Bool:=(decide (-(1000000000000:Int)≤i.low)&&decide (i.low≤i.high))&&decide (i.high≤(1000000000000:Int))
theorem a1J {i:Ivl}:a4C i=true ↔ -(1000000000000:Int)≤i.low∧i.low≤i.high∧i.high≤(1000000000000:Int):=by simp[a4C,and_assoc]
def b5e:Ivl:=⟨0,0⟩
def b6S (f:Int→Int→Int) (a b:Ivl):Ivl:=
 if (!a4C a || !a4C b)=true then b5e else ⟨min (min (min (f a.low b.low) (f a.low b.high)) (f a.high b.low)) (f a.high b.high),max (max (max (f a.low b.low) (f a.low b.high)) (f a.high b.low)) (f a.high b.high)⟩
def c4v:=b6S fun a b=>c1L (a+b)
def d0O:=b6S fun a b=>c1L (a-b)
def d0K:=b6S fun a b=>c1L (a * b)
def a7G (a b:Ivl):Ivl:=if (!a4C a || !a4C b)=true then b5e else ⟨min a.low b.low,max a.high b.high⟩
def c8P (i:Ivl) (n:Int):Int:=if (!a4C i||decide (i.high≤n))=true then 0 else if i.low>n then 2 else 1
def a9m (a b:Int):Int:=if b=0 then 0 else if a.tdiv b * b≠a∧(decide (a<0) != decide (b<0))=true then a.tdiv b-1 else a.tdiv b
def c3l (a:Ivl) (d:Int):Ivl:=⟨min (a9m a.low d) (a9m a.high d),max (a9m a.low d) (a9m a.high d)⟩
def b2m (a:Ivl) (low high:Int):List Ivl:=if low≤high then [c3l a low,c3l a high] else []
def c0s (a b:Ivl):List Ivl:=(if b.low≤0∧b.high≥0 then [b5e] else [])++b2m a (max b.low 1) b.high++b2m a b.low (min b.high (-1))
def d0f (a b:Ivl):Ivl:=(c0s a b).foldl a7G ((c0s a b).headD b5e)
section
variable {a b:Ivl}
theorem b1l (f:Int→Int→Int) (hf:∀x y,-(1000000000000:Int)≤f x y∧f x y≤(1000000000000:Int)):a4C (b6S f a b)=true:=by
 unfold b6S
 split
 ·decide
 ·have h1:=hf a.low b.low
  have h2:=hf a.low b.high
  have h3:=hf a.high b.low
  have h4:=hf a.high b.high
  rw[a1J];dsimp only;omega
theorem b4P (n:Int) : -(1000000000000:Int)≤c1L n∧c1L n≤(1000000000000:Int):=by unfold c1L;omega
theorem c5p:a4C (c4v a b)=true:=b1l _ fun _ _=>b4P _
theorem c7j:a4C (d0O a b)=true:=b1l _ fun _ _=>b4P _
theorem c6m:a4C (d0K a b)=true:=b1l _ fun _ _=>b4P _
theorem b1J:a4C (a7G a b)=true:=by
 unfold a7G
 split
 ·decide
 ·rename_i h
  have h1:a4C a=true∧a4C b=true:=by simpa using h
  have h2:=a1J.1 h1.1
  have h3:=a1J.1 h1.2
  rw[a1J];dsimp only;omega
theorem c4O (ha:a4C a=true) (hb:a4C b=true):¬(!a4C a || !a4C b)=true:=by simp[ha,hb]
theorem c5o (ha:a4C a=true) (hb:a4C b=true):c4v a b=⟨c1L (a.low+b.low),c1L (a.high+b.high)⟩:=by
 have h1:=a1J.1 ha
 have h2:=a1J.1 hb
 unfold c4v b6S;rw[if_neg (c4O ha hb)]
 dsimp only[c1L]
 congr 1<;>omega
theorem b2M {x d:Int} (hx : -(1000000000000:Int)≤x∧x≤(1000000000000:Int)) : -(1000000000000:Int)≤a9m x d∧a9m x d≤(1000000000000:Int):=by
 unfold a9m
 split
 ·omega
 ·rename_i hd
  have habs:(x.tdiv d).natAbs≤x.natAbs:=by rw[Int.natAbs_tdiv];exact Nat.div_le_self _ _
  split
  ·rename_i h
   obtain⟨h1,h2⟩:=h
   -- the quotient is not the dividend: it is of lesser amount,or 0
   by_cases h3:(x.tdiv d).natAbs=x.natAbs
   ·exfalso
    rw[Int.natAbs_tdiv]at h3
    rcases Nat.eq_zero_or_pos x.natAbs with h0|h0
    ·have:x=0:=by omega
     subst this;simp at h1
    ·have hd1:d.natAbs=1:=by
      rcases Nat.lt_or_ge d.natAbs 2 with h4|h4
      ·omega
      ·have h5:=Nat.div_lt_self h0 h4
       have h6:x.natAbs.div d.natAbs=x.natAbs / d.natAbs:=rfl
       omega
     rcases Int.natAbs_eq d with h4|h4
     ·rw[hd1]at h4;rw[h4]at h1;simp at h1
     ·rw[hd1]at h4;rw[h4]at h1;simp at h1
   ·omega
  ·omega
theorem b4H {d:Int} (ha:a4C a=true):a4C (c3l a d)=true:=by
 have h1:=a1J.1 ha
 have h2:=b2M (x:=a.low) (d:=d) (by omega)
 have h3:=b2M (x:=a.high) (d:=d) (by omega)
 rw[a1J];unfold c3l;dsimp only;omega
theorem c3m (ha:a4C a=true):∀q∈c0s a b,a4C q=true:=fun q hq=>by
 have hs:∀{lo hi:Int},q∈b2m a lo hi→a4C q=true:=fun {lo hi} h=>by
  unfold b2m at h
  split at h
  ·rcases List.mem_cons.1 h with rfl|h
   ·exact b4H ha
   ·rw[List.mem_singleton.1 h];exact b4H ha
  ·cases h
 unfold c0s at hq
 rcases List.mem_append.1 hq with h|h
 ·rcases List.mem_append.1 h with h|h
  ·split at h
   ·rw[List.mem_singleton.1 h];decide
   ·cases h
  ·exact hs h
 ·exact hs h
theorem b9i:∀(l:List Ivl) (x:Ivl),a4C x=true→a4C (l.foldl a7G x)=true
 | [],_,h=>h
 |y::l,x,h=>b9i l _ b1J
theorem c5O (ha:a4C a=true):a4C (d0f a b)=true:=by
 unfold d0f;refine b9i _ _ ?_
 cases h:c0s a b with
 |nil=>decide
 |cons y l=>exact c3m (b:=b) ha y (by rw[h];simp)
theorem c2F (ha:a4C a=true) (hb:a4C b=true):a7G a b=⟨min a.low b.low,max a.high b.high⟩:=by unfold a7G;rw[if_neg (c4O ha hb)]
theorem b7k:a7G a b=a7G b a:=by
 unfold a7G;rw[Bool.or_comm,Int.min_comm,Int.max_comm]
end
inductive Fm where
 |mk (op n:Int) (kids:List Fm)
def Fm.op:Fm→Int | .mk o _ _=>o
def Fm.n:Fm→Int | .mk _ n _=>n
def Fm.kids:Fm→List Fm | .mk _ _ k=>k
mutual
def nodesF:Fm→Int→Int
 |.mk _ _ kids,most=>nodesL kids 1 most
def nodesL:List Fm→Int→Int→Int
 | [],n,_=>n
 |k::ks,n,most=>if n>most then n else nodesL ks (n+nodesF k (most-n)) most
end
def c9K (op:Int):Int:=if op=11 then 3 else if 5≤op then 2 else 0
mutual
def rightF:Fm→Bool
 |.mk op n kids=>!(decide (op<1)||decide (op>11)) && !(((decide ((kids.length:Int)≠c9K op)||decide (n<0))||decide (n>9999999))||(decide (n>0)&&decide (op≠1)))&&rightL kids
def rightL:List Fm→Bool
 | []=>true
 |k::ks=>rightF k&&rightL ks
end
def b9B (u:Use) (op:Int):Ivl:=if op=2 then u.km else if op=3 then u.cycles else u.load
def b8o (op:Int) (a b:Ivl):Ivl:=
 if op=5 then c4v a b else if op=6 then d0O a b else if op=7 then d0K a b else if op=9 then ⟨min a.low b.low,min a.high b.high⟩ else if op=10 then ⟨max a.low b.low,max a.high b.high⟩ else d0f a b
def b8C (a b c:Ivl):Ivl:=if c8P a 0=2 then b else if c8P a 0=0 then c else a7G b c
def a7W (u:Use):Fm→Ivl
 |.mk op n []=>if op=1 then ⟨n,n⟩ else b9B u op
 |.mk op n [a,b]=>b8o op (a7W u a) (a7W u b)
 |.mk op n [a,b,c]=>b8C (a7W u a) (a7W u b) (a7W u c)
 |.mk _ _ _=>b5e
def c1n (i:Ivl):Bool:=!((decide (i.low<0)||decide (i.low>i.high))||decide (i.high>1000000))
def c7u (u:Use):Bool:=(c1n u.km&&c1n u.cycles)&&c1n u.load
def a9V (f:Fm):Bool:=decide (nodesF f 60≤60)&&rightF f
def c9S (f:Fm) (u:Use):Ivl:=if c7u u=false then b5e else if a9V f=false then b5e else ⟨max 0 (a7W u f).low,max 0 (a7W u f).high⟩
theorem b2v {i:Ivl} (h:c1n i=true):a4C i=true∧0≤i.low:=by
 simp only[c1n,Bool.not_eq_true',Bool.or_eq_false_iff,decide_eq_false_iff_not]at h
 rw[a1J];omega
theorem a9L {op n:Int} {kids:List Fm} (h:rightF (.mk op n kids)=true):(1≤op∧op≤11)∧(kids.length:Int)=c9K op∧(0≤n∧n≤9999999)∧∀k∈kids,rightF k=true:=by
 have hl:∀ks:List Fm,rightL ks=true→∀k∈ks,rightF k=true:=fun ks=>by
  induction ks with
  |nil=>intro _ k hk;cases hk
  |cons x ks ih=>
   intro h k hk
   simp only[rightL,Bool.and_eq_true]at h
   rcases List.mem_cons.1 hk with rfl|hk
   ·exact h.1
   ·exact ih h.2 k hk
 simp only[rightF,Bool.and_eq_true,Bool.not_eq_true',Bool.or_eq_false_iff,decide_eq_false_iff_not]at h
 exact⟨by omega,by omega,by omega,hl kids h.2⟩
theorem b8p {a b:Ivl} (op:Int) (ha:a4C a=true) (hb:a4C b=true):a4C (b8o op a b)=true:=by
 have h1:=a1J.1 ha
 have h2:=a1J.1 hb
 unfold b8o
 split
 ·exact c5p
 split
 ·exact c7j
 split
 ·exact c6m
 split
 ·rw[a1J];dsimp only;omega
 split
 ·rw[a1J];dsimp only;omega
 ·exact c5O ha
theorem a9N {u:Use} (hu:c7u u=true):∀f:Fm,rightF f=true→a4C (a7W u f)=true
 |.mk op n [],h=>by
  have h1:=a9L h
  simp only[c7u,Bool.and_eq_true]at hu
  simp only[a7W]
  split
  ·rw[a1J];dsimp only;omega
  ·unfold b9B
   split
   ·exact (b2v hu.1.1).1
   split
   ·exact (b2v hu.1.2).1
   ·exact (b2v hu.2).1
 |.mk op n [a,b],h=>by
  have h1:=(a9L h).2.2.2
  simp only[a7W]
  exact b8p op (a9N hu a (h1 a (by simp))) (a9N hu b (h1 b (by simp)))
 |.mk op n [a,b,c],h=>by
  have h1:=(a9L h).2.2.2
  simp only[a7W]
  unfold b8C
  split
  ·exact a9N hu b (h1 b (by simp))
  split
  ·exact a9N hu c (h1 c (by simp))
  ·exact b1J
 |.mk op n [a],h=>by simp only[a7W];decide
 |.mk op n (a::b::c::d::l),h=>by simp only[a7W];decide
theorem c5M {f:Fm} {u:Use}:a4C (c9S f u)=true∧0≤(c9S f u).low:=by
 unfold c9S
 split
 ·exact⟨by decide,by decide⟩
 ·rename_i hu
  split
  ·exact⟨by decide,by decide⟩
  ·rename_i hv
   have hr:rightF f=true:=by
    have:a9V f=true:=by simpa using hv
    simp only[a9V,Bool.and_eq_true]at this
    exact this.2
   have h1:=a1J.1 (a9N (by simpa using hu) f hr)
   refine⟨?_,by dsimp only;omega⟩;rw[a1J];dsimp only;omega
def d0N (a b:Ivl) (st:Ivl×Bool) (d:Int):Ivl×Bool:=if d<b.low∨d>b.high∨d=0 then st else ((if st.2=true then a7G (c3l a d) st.1 else c3l a d),true)
structure Hull (p:Ivl→Prop) (r:Ivl):Prop where
 lo:∃x,p x∧r.low=x.low
 lo2:∀x,p x→r.low≤x.low
 hi:∃x,p x∧r.high=x.high
 hi2:∀x,p x→x.high≤r.high
section
variable {p q:Ivl→Prop} {r r' y:Ivl} {a b:Ivl}
theorem Hull.uniq (h:Hull p r) (h':Hull q r') (e:∀x,p x↔q x):r=r':=by
 obtain⟨x,hx,e1⟩:=h.lo;obtain⟨x',hx',e1'⟩:=h'.lo;obtain⟨z,hz,e2⟩:=h.hi;obtain⟨z',hz',e2'⟩:=h'.hi
 have h1:=h.lo2 x' ((e _).2 hx')
 have h2:=h'.lo2 x ((e _).1 hx)
 have h3:=h.hi2 z' ((e _).2 hz')
 have h4:=h'.hi2 z ((e _).1 hz)
 cases r;cases r'
 congr 1
 ·dsimp only at *;omega
 ·dsimp only at *;omega
theorem Hull.one (x:Ivl):Hull (fun z=>z=x) x:=⟨⟨x,rfl,rfl⟩,fun z h=>by rw[h];omega,⟨x,rfl,rfl⟩,fun z h=>by rw[h];omega⟩
theorem Hull.join (h:Hull p r) (hr:a4C r=true) (hy:a4C y=true):Hull (fun x=>p x∨x=y) (a7G r y):=by
 rw[c2F hr hy];refine⟨?_,fun x hx=>?_,?_,fun x hx=>?_⟩
 ·obtain⟨x,hx,e⟩:=h.lo
  rcases Int.le_total r.low y.low with h1|h1
  ·exact⟨x,.inl hx,by dsimp only;omega⟩
  ·exact⟨y,.inr rfl,by dsimp only;omega⟩
 ·dsimp only
  rcases hx with hx|rfl
  ·have:=h.lo2 x hx;omega
  ·omega
 ·obtain⟨x,hx,e⟩:=h.hi
  rcases Int.le_total y.high r.high with h1|h1
  ·exact⟨x,.inl hx,by dsimp only;omega⟩
  ·exact⟨y,.inr rfl,by dsimp only;omega⟩
 ·dsimp only
  rcases hx with hx|rfl
  ·have:=h.hi2 x hx;omega
  ·omega
def c9P (a b:Ivl) (p:Ivl→Prop) (d:Int) (x:Ivl):Prop:=p x∨((b.low≤d∧d≤b.high∧d≠0)∧x=c3l a d)
def QInv (p:Ivl→Prop) (st:Ivl×Bool):Prop:=(st.2=false→∀x,¬p x)∧(st.2=true→Hull p st.1∧a4C st.1=true)
theorem QInv.step {st:Ivl×Bool} (ha:a4C a=true) (h:QInv p st) (d:Int):QInv (c9P a b p d) (d0N a b st d):=by
 unfold d0N
 split
 ·rename_i hs
  have e:c9P a b p d=p:=by
   funext x
   apply propext
   exact⟨fun h=>h.elim id fun h=>by have:=h.1;omega,.inl⟩
  rw[e];exact h
 ·rename_i hs
  refine⟨fun h=>(by cases h),fun _=>?_⟩
  have hr:b.low≤d∧d≤b.high∧d≠0:=by omega
  have hq:=b4H (d:=d) ha
  dsimp only
  split
  ·rename_i hf
   obtain⟨h1,h2⟩:=h.2 hf;rw[b7k]
   have h3:=h1.join h2 hq
   have e:c9P a b p d=fun x=>p x∨x=c3l a d:=by
    funext x
    apply propext
    exact⟨fun h=>h.elim .inl fun h=>.inr h.2,fun h=>h.elim .inl fun h=>.inr ⟨hr,h⟩⟩
   rw[e];exact⟨h3,b1J⟩
  ·rename_i hf
   have h1:=h.1 (by simpa using hf)
   have e:c9P a b p d=fun x=>x=c3l a d:=by
    funext x
    apply propext
    exact⟨fun h=>h.elim (fun h=>absurd h (h1 x)) fun h=>h.2,fun h=>.inr ⟨hr,h⟩⟩
   rw[e];exact⟨Hull.one _,hq⟩
end
end Go.Sx
set_option linter.all false
namespace Go.Sx
open Go
inductive FmRd (I:IMap):List Value→Fm→Prop
 |mk (op n:Int) (kids:List Fm) (A:Option Addr) (c b o:Nat) (g:Nat→List Value) (hA:0<kids.length→A=some ⟨b,o,none⟩)
   (hg:∀i x,kids[i]? = some x→ICells I b (o+i * 3) (g i)) (hr:∀i x,kids[i]? = some x→FmRd I (g i) x) (hc:kids.length≤c) (hm:c≤9223372036854775807) :
   FmRd I [ci op,ci n,.slice A kids.length c] (.mk op n kids)
theorem FmRd.le {I I':IMap} (hI:ILe I I') {vs:List Value} {f:Fm} (h:FmRd I vs f):FmRd I' vs f:=by
 induction h with
 |mk op n kids A c b o g hA hg _ hc hm ih=>exact .mk op n kids A c b o g hA (fun i x h=>(hg i x h).le hI) ih hc hm
instance:Enc Fm where
 k:=3
 rd:=FmRd
 len:=fun h=>by cases h;rfl
 mono:=fun hI h=>h.le hI
 one:=fun h=>by cases h;rfl
end Go.Sx
set_option linter.all false
namespace Go.Sx
open Go
def c2O (P:Program) (t:TypeId) (name:String):Option FuncId:=
 match P.info? t,P.underlying t with
 |some i,some (.struct _)=>match i.methods.find? (·.name == name) with
  |some m=>match m.path.toList,m.func with
   | [],some (f,false)=>some f
   |_,_=>none
  |none=>none
 |_,_=>none
section
variable {P:Program} {n:Sz} {E:Ent} {I:IMap} {L:LL} {H:List Res} {Q:Exit→Act→World→Prop} {ops:Array Oper} {K:Act→World→Prop}
variable {d ty tx tyy:Nat} {pos:String} {af:Array Edge} {x y:Operand}
end
end Go.Sx
set_option linter.all false
namespace Go.Sx
open Go
section
variable {l:List Int} {i:Nat}
end
section
variable {f:Fm} {n m:Int} {i:Nat}
end
theorem RdS.rda {α:Type} [Enc α] {I:IMap} {A:Option Addr} {m c:Nat} {l:List α} (h:RdS I (.slice A m c) l):RdA I A l:=by
 obtain⟨_,_,e,h,_⟩:=h;cases e;exact h
section
variable {P:Program} {ρ:Option Nat} {n:Sz} {E:Ent} {I I':IMap} {L:LL} {H H0:List Res} {Q:Exit→Act→World→Prop} {ops:Array Oper} {K:Act→World→Prop}
variable {d ty:Nat} {pos:String} {af:Array Edge} {fo:Operand} {as_:List Operand} {ats:Array TypeId} {f:FuncId} {args:List Value} {r1 r2 r3:Res}
end
end Go.Sx
namespace Go.Proofs.YtdapmfkbpnjkmaaGreat
open Go Go.Sx
set_option linter.all false
set_option maxRecDepth 20000
set_option maxHeartbeats 4000000
instance T.by_44:Has (a2D Tryz.prog 44) ([.int .i64 0,.int .i64 0],2,16):=⟨by kernel_rfl⟩
instance T.elt_235:Has (a8r Tryz.prog 235) (44,2):=⟨by kernel_rfl⟩
instance T.elt_320:Has (a8r Tryz.prog 320) (270,1):=⟨by kernel_rfl⟩
instance T.elt_68:Has (a8r Tryz.prog 68) (70,3):=⟨by kernel_rfl⟩
instance T.fld_238_0:Has (a3Q Tryz.prog 238 0) (0,true,6):=⟨by kernel_rfl⟩
instance T.fld_70_0:Has (a3Q Tryz.prog 70 0) (0,false,1):=⟨by kernel_rfl⟩
instance T.fld_70_1:Has (a3Q Tryz.prog 70 1) (1,false,1):=⟨by kernel_rfl⟩
instance T.fld_70_2:Has (a3Q Tryz.prog 70 2) (2,false,1):=⟨by kernel_rfl⟩
instance T.mth_238_374 : Has (c2O Tryz.prog 238 "bogie/formula.apply") 374 := ⟨by kernel_rfl⟩
instance T.mth_238_375 : Has (c2O Tryz.prog 238 "bogie/formula.choose") 375 := ⟨by kernel_rfl⟩
instance T.mth_238_376 : Has (c2O Tryz.prog 238 "bogie/formula.letter") 376 := ⟨by kernel_rfl⟩
instance T.mth_238_377 : Has (c2O Tryz.prog 238 "bogie/formula.number") 377 := ⟨by kernel_rfl⟩
instance T.pl_238:Has (plK Tryz.prog 238) [(0,6)]:=⟨by kernel_rfl⟩
instance T.pl_44:Has (plK Tryz.prog 44) [(0,1),(1,1)]:=⟨by kernel_rfl⟩
instance T.ty_235:Has (tyK Tryz.prog 235) (false,1):=⟨by kernel_rfl⟩
instance T.ty_270:Has (tyK Tryz.prog 270) (false,1):=⟨by kernel_rfl⟩
instance T.ty_68:Has (tyK Tryz.prog 68) (false,1):=⟨by kernel_rfl⟩
instance T.ty_70:Has (tyK Tryz.prog 70) (true,3):=⟨by kernel_rfl⟩
instance T.und_235:Has (Tryz.prog.underlying 235) (.slice 44):=⟨by kernel_rfl⟩
instance T.und_270:Has (Tryz.prog.underlying 270) (.int .i64):=⟨by kernel_rfl⟩
instance T.und_320:Has (Tryz.prog.underlying 320) (.slice 270):=⟨by kernel_rfl⟩
instance T.und_68:Has (Tryz.prog.underlying 68) (.slice 70):=⟨by kernel_rfl⟩
instance T.zero_235:Has (a2t Tryz.prog 235) [.slice none 0 0]:=⟨by kernel_rfl⟩
instance T.zero_238:Has (a2t Tryz.prog 238) [.int .i64 0,.int .i64 0,.int .i64 0,.int .i64 0,.int .i64 0,.int .i64 0]:=⟨by kernel_rfl⟩
instance T.zero_270:Has (a2t Tryz.prog 270) [.int .i64 0]:=⟨by kernel_rfl⟩
instance T.zero_44:Has (a2t Tryz.prog 44) [.int .i64 0,.int .i64 0]:=⟨by kernel_rfl⟩
instance T.zero_70:Has (a2t Tryz.prog 70) [.int .i64 0,.int .i64 0,.slice none 0 0]:=⟨by kernel_rfl⟩
end Go.Proofs.YtdapmfkbpnjkmaaGreat
set_option linter.all false
namespace Go.Sx
open Go
def upP (st:List Part) (n:ByteArray):ByteArray:=((a0E st n).getD zPart).into
def a5O (st:List Part) (v:ByteArray):Nat→ByteArray→Bool
 |0,_=>false
 |k+1,n=>!decide (upP st n=a0Z)&&(decide (upP st n=v)||a5O st v k (upP st n))
def b8f (st:List Part) (v n:ByteArray):Prop:=((a0E st v).isSome=true∧(a0E st n).isSome=true∧n≠v)∧∃k,a5O st v k n=true
def c5q (d:Ivl) (u:Use) (p:Part):Part:={ p with life:=⟨c4v p.life.km u.km,c4v p.life.cycles u.cycles,c4v p.life.damage d⟩ }
open Classical in
noncomputable def useL (st:List Part) (e:Evt) (d:Ivl):List Part:=st.map fun p=>if p.name=e.part∨b8f st e.part p.name then c5q d e.use p else p
noncomputable def applyL (f:Fm) (c:List Kind) (st:List Part) (e:Evt):b0o:=
 if (a0q c st e).2=0∧e.op=4 then (useL (a0q c st e).1 e (c9S f e.use),0) else a0q c st e
noncomputable def runLGo (f:Fm) (c:List Kind):List Part→Int→List Evt→c7S
 |s,_,[]=>(s,-1,0)
 |s,i,e::r=>if (applyL f c s e).2=0 then runLGo f c (applyL f c s e).1 (i+1) r else ([],i,(applyL f c s e).2)
noncomputable def runL (f:Fm) (c:List Kind) (l:List Evt) (day:Int):c7S:=
 if (!a1g c || !a9V f)=true then ([],-1,1) else runLGo f c [] 0 (a0U (l.filter fun e=>!decide (e.day>day)))
def c7P (p:Part):Prop:=(a2o p.life.km=true∧a2o p.life.cycles=true)∧a2o p.life.damage=true
def LfInv (st:List Part):Prop:=∀p∈st,c7P p
section
variable {c:List Kind} {f:Fm} {st:List Part} {p:Part} {e:Evt} {d:Ivl}
theorem b2B:(a2o zLife.km=true∧a2o zLife.cycles=true)∧a2o zLife.damage=true:=by decide
theorem b0B {i:Ivl}:a2o i=true↔0≤i.low∧i.low≤i.high∧i.high≤(1000000000000:Int):=by simp[a2o,and_assoc]
theorem b1N {i u:Ivl} (hi:a2o i=true) (hu:a4C u=true) (h0:0≤u.low):a2o (c4v i u)=true:=by
 have h1:=b0B.1 hi
 have h2:=a1J.1 hu
 rw[c5o (a1J.2 (by omega)) hu,b0B];unfold c1L;dsimp only;omega
theorem LfInv.put {q:Part} (h:LfInv st) (hq:c7P q):LfInv (a5u Part.name st q):=fun p hp=>by
 rcases b2b hp with rfl|hp
 ·exact hq
 ·exact h p hp
theorem LfInv.apply (h:LfInv st) (e:Evt):LfInv (a0q c st e).1:=by
 have hn:∀n,LfInv (a6j n).1:=fun n p hp=>by cases hp
 have hz:c7P zPart:=b2B
 have hp:c7P (a1Z st e):=by
  unfold a1Z
  cases hq:a0E st e.part with
  |none=>exact hz
  |some p=>exact h p (b1B hq)
 have hput:∀q:Part,c7P q→LfInv (b6h st q).1:=fun q hq=>h.put hq
 unfold a0q
 split
 ·exact hn _
 split
 ·unfold a2n
  split
  ·exact hn _
  split
  ·exact hn _
  split
  ·exact hn _
  ·exact hput _ b2B
 ·unfold a0u
  split
  ·exact hn _
  split
  ·exact hn _
  ·unfold a1b
   split
   ·unfold a0V
    split
    ·exact hn _
    split
    ·exact hn _
    split
    ·exact hn _
    ·exact hput _ hp
   split
   ·unfold a0x
    split
    ·exact hn _
    ·exact hput _ hp
   split
   ·unfold a0W
    split
    ·exact hn _
    ·exact hput _ hp
   split
   ·exact hput _ b2B
   split
   ·unfold a0P
    split
    ·exact hn _
    ·exact hput _ hp
   split
   ·unfold a0C
    split
    ·exact hn _
    ·exact hput _ hp
   ·exact hput _ hp
theorem LfInv.use (h:LfInv st) (hu:a4C e.use.km=true∧0≤e.use.km.low) (hu2:a4C e.use.cycles=true∧0≤e.use.cycles.low) (hd:a4C d=true∧0≤d.low):LfInv (useL st e d):=fun p hp=>by
 unfold useL at hp
 obtain⟨q,hq,rfl⟩:=List.mem_map.1 hp
 have h1:=h q hq
 split
 ·exact⟨⟨b1N h1.1.1 hu.1 hu.2,b1N h1.1.2 hu2.1 hu2.2⟩,b1N h1.2 hd.1 hd.2⟩
 ·exact h1
theorem b3U (h:(a0q c st e).2=0):a1t e=true:=by
 unfold a0q at h
 split at h
 ·cases h
 ·rename_i h2
  have:a2T c st=true∧a1t e=true:=by simpa using h2
  exact this.2
theorem c7a (h:a1t e=true) (h4:e.op=4):(a4C e.use.km=true∧0≤e.use.km.low)∧(a4C e.use.cycles=true∧0≤e.use.cycles.low)∧b0n e.use 3=true:=by
 have hu:b0n e.use 3=true:=by
  simp only[a1t,Bool.and_eq_true,Bool.not_eq_true']at h
  have h2:=h.1.1.2
  unfold a5G at h2
  rw[if_neg (by omega),if_neg (by omega),if_pos h4]at h2
  simpa using h2
 have hu2:=hu
 rw[←c1o]at hu2
 simp only[c5d,c1K,Bool.and_eq_true,decide_eq_true_eq]at hu2
 exact⟨⟨a1J.2 (by omega),by omega⟩,⟨a1J.2 (by omega),by omega⟩,hu⟩
theorem LfInv.step (h:LfInv st):LfInv (applyL f c st e).1:=by
 unfold applyL
 split
 ·rename_i hc
  have hu:=c7a (b3U hc.1) hc.2
  exact (h.apply e).use hu.1 hu.2.1 c5M
 ·exact h.apply e
theorem LfInv.nil:LfInv []:=fun p h=>by cases h
end
end Go.Sx
set_option linter.all false
namespace Go.Sx
open Go
open Go.ChangeMaps (setBlock)
structure ItS where
 es:Array MapEntry
 clock:Nat
 seen:Array Nat
def ItS.it (S:ItS) (m:Nat):Obj:=.mapIter (some m) S.clock S.seen S.clock
def ItS.mp (S:ItS):Obj:=.map S.es S.clock
structure ItS.Ok {κ:Type} (enc:κ→Value) (kvs:List (κ×Value)) (S:ItS):Prop where
 all:S.es.toList.map (fun e=>(e.key,e.val))=a2E enc kvs
 nd:(S.es.toList.map (·.born)).Nodup
 old:∀e∈S.es.toList,e.born<S.clock
def ItS.Todo {κ:Type} (enc:κ→Value) (todo:List (κ×Value)) (S:ItS):Prop:=(leftOf S.es S.seen).toList.map (fun e=>(e.key,e.val))=a2E enc todo
def ItS.At {κ:Type} (enc:κ→Value) (p:κ×Value) (S:ItS):Prop:=∃(e:MapEntry) (seen0:Array Nat),S.seen=seen0.push e.born∧e∈S.es.toList∧e.key=enc p.1∧e.val=p.2
inductive ItS.Step {κ:Type} (enc:κ→Value) (kvs todo:List (κ×Value)) (S:ItS):Option (κ×Value)→ItS→List (κ×Value)→Prop
 |over (h:todo=[]):ItS.Step enc kvs todo S none S todo
 |come (p:κ×Value) (a b:List (κ×Value)) (S':ItS) (h:todo=a++p::b) (h1:S'.Ok enc kvs) (h2:S'.Todo enc (a++b)) (h3:S'.At enc p):ItS.Step enc kvs todo S (some p) S' (a++b)
def c6o {κ:Type} (enc:κ→Value):Option (κ×Value)→Array Value
 |none=>#[.bool false]
 |some p=>#[.bool true,enc p.1,p.2]
theorem b9N {κ:Type} (enc:κ→Value) (q:Option (κ×Value)):(c6o enc q)[0]? = some (.bool q.isSome):=by cases q<;>rfl
theorem c2d {κ:Type} {enc:κ→Value} {x:Value×Value}:∀{l a b:List (Value×Value)} {todo:List (κ×Value)},l=a2E enc todo→l=a++x::b→∃(p:κ×Value) (a' b':List (κ×Value)),todo=a'++p::b'∧a2E enc a'=a∧a2E enc b'=b∧(enc p.1,p.2)=x
 |_,a,b,todo,rfl,h=>by
  have h1:todo.map (fun p=>(enc p.1,p.2))=a++x::b:=h
  obtain⟨a',c',rfl,h2,h3⟩:=List.map_eq_append_iff.1 h1;obtain⟨p,b',rfl,h4,h5⟩:=List.map_eq_cons_iff.1 h3;exact⟨p,a',b',rfl,h2,h5,h4⟩
section
variable {P:Program} {ρ:Option Nat} {n:Sz} {E:Ent} {I:IMap} {L:LL} {H:List Res} {Q:Exit→Act→World→Prop} {ops:Array Oper} {K:Act→World→Prop}
variable {d ty:Nat} {pos:String} {af:Array Edge} {x y:Operand} {κ:Type} [DecidableEq κ] {enc:κ→Value} {kvs todo:List (κ×Value)} {S:ItS} {m r:Nat}
theorem b0X (h:∀S:ItS,S.Ok enc kvs→S.Todo enc kvs→S.seen=#[]→SX n E I L (.any m S.mp::H) K):SX n E I L (.mp m (a2E enc kvs)::H) K:=by
 intro a w s mm;obtain⟨entries,clock,h1,h2,h3,h4⟩:=mm.mp (List.mem_cons_self ..);refine h ⟨entries,clock,#[]⟩ ⟨h2,h3,h4⟩ ?_ rfl a w s (mm.step rfl ⟨rfl,Nat.le_refl _⟩ rfl (Nat.le_refl _) (fun _ _ _=>rfl) h1 (fun g hg=>.inl hg));unfold ItS.Todo leftOf;rw[show (entries.filter fun e=>!(#[]:Array Nat).contains e.born)=entries from Array.filter_eq_self.2 (fun x hx=>by simp)];exact h2
theorem b5V {mt kt et:Nat} (hm:∀w,Mem E I H w→w.heap[m]? = some S.mp) (hS:S.seen=#[]) (ht:P.underlying mt=some (.map kt et)) (hx:ev L x=some (.map (some m))) (hd:Nat.blt d n.sz=true)
  (k:∀r,SX n E I ((d,.pointer (some ⟨r,0,none⟩))::L) (.any r (S.it m)::H) K):SX n E I L H (one P ops Q ⟨some d,.range mt x,ty,pos,af,none⟩ K):=
 a7N (fun r:Nat=>.pointer (some ⟨r,0,none⟩)) (fun _=>I) (fun r=>.any r (S.it m)::H) (fun _=>True) hd
  (fun a w st mm=>by
   have hb:w.heap[m]? = some (.map S.es S.clock):=hm w mm
   refine⟨w.heap.size,w.alloc (.mapIter (some m) S.clock #[] S.clock),trivial,?_,mm.new rfl ⟨rfl,Nat.le_refl _⟩ rfl (by simp) (fun k hk=>a5c w _ k hk) (by show (w.alloc _).heap[w.heap.size]? = _;rw[heap_alloc_new];simp[ItS.it,hS]) (fun g hg=>by simp only[Res.foot,Option.some.injEq]at hg;omega)⟩
   simp only[execOp,st.ev hx,Sem.run_bind,run_range_map w mt kt et m S.es S.clock ht hb,Result.andThen_ok,Sem.run_pure]) fun r _=>k r
theorem Mem.setBlock {w:World} {o o':Obj} (mm:Mem E I (.any r o::H) w):Mem E I (.any r o'::H) (setBlock w r o'):=by
 have hr:w.heap[r]? = some o:=mm.holds _ (List.mem_cons_self ..)
 have hlt:r<w.heap.size:=(Array.getElem?_eq_some_iff.1 hr).1
 refine mm.step rfl ⟨rfl,Nat.le_refl _⟩ rfl (by simp[ChangeMaps.setBlock]) (fun k hk hne=>?_) (by show (ChangeMaps.setBlock w r o').heap[r]? = _;simp[ChangeMaps.setBlock,hlt]) (fun g hg=>.inl hg)
 have:r≠k:=fun e=>hne (by rw[←e];rfl)
 simp[ChangeMaps.setBlock,Array.getElem?_setIfInBounds_ne this]
theorem b9V (hm:∀w,Mem E I (.any r (S.it m)::H) w→w.heap[m]? = some S.mp) (hO:S.Ok enc kvs) (hT:S.Todo enc todo) (hx:ev L x=some (.pointer (some ⟨r,0,none⟩))) (hd:Nat.blt d n.sz=true)
  (k:∀q S' todo',ItS.Step enc kvs todo S q S' todo'→S'.mp=S.mp→SX n E I ((d,.tuple (c6o enc q))::L) (.any r (S'.it m)::H) K) :
  SX n E I L (.any r (S.it m)::H) (one P ops Q ⟨some d,.next x false,ty,pos,af,none⟩ K):=
 a7N (α:=Option (κ×Value)×ItS×List (κ×Value)) (fun z=>.tuple (c6o enc z.1)) (fun _=>I) (fun z=>.any r (z.2.1.it m)::H) (fun z=>ItS.Step enc kvs todo S z.1 z.2.1 z.2.2∧z.2.1.mp=S.mp) hd
  (fun a w st mm=>by
   have hr:w.heap[r]? = some (.mapIter (some m) S.clock S.seen S.clock):=mm.holds (.any r (S.it m)) (List.mem_cons_self ..)
   have hb:w.heap[m]? = some (.map S.es S.clock):=hm w mm
   rcases run_next_at (P:=P) w ty r m S.clock S.clock S.seen S.es S.clock hr hb hO.old (Nat.le_refl _) with ⟨h0,hrun⟩|⟨e,he,w1,hw1,hrun⟩
   ·refine⟨(none,S,todo),w,⟨.over ?_,rfl⟩,by simp only[execOp,st.ev hx,Sem.run_bind,hrun,Result.andThen_ok,Sem.run_pure];rfl,mm⟩
    have h1:(leftOf S.es S.seen).toList=[]:=List.eq_nil_of_length_eq_zero (by simpa using h0)
    unfold ItS.Todo at hT
    rw[h1]at hT
    cases todo with
    |nil=>rfl
    |cons p t=>simp[a2E]at hT
   ·have hm1:Mem E I (.any r (S.it m)::H) w1:=by rcases hw1 with rfl|rfl;exact mm;exact mm.drew
    obtain⟨l1,l2,hl⟩:=List.append_of_mem he
    have hT':=hT
    unfold ItS.Todo at hT'
    rw[hl,List.map_append,List.map_cons]at hT'
    obtain⟨p,a',b',e1,e2,e3,e4⟩:=c2d hT'.symm.symm rfl
    have hmem:e∈S.es.toList:=by
     have:e∈(S.es.filter fun e=>!S.seen.contains e.born).toList:=he
     simp at this;simpa using this.1
    have hnd:((leftOf S.es S.seen).toList.map (·.born)).Nodup:=by
     have hs:List.Sublist (leftOf S.es S.seen).toList S.es.toList:=by
      unfold leftOf;rw[Array.toList_filter];exact List.filter_sublist
     exact (hs.map _).nodup hO.nd
    have hleft:(leftOf S.es (S.seen.push e.born)).toList=l1++l2:=by
     have h5:(leftOf S.es (S.seen.push e.born)).toList=(leftOf S.es S.seen).toList.filter (fun y=>!(y.born == e.born)):=by
      unfold leftOf;rw[Array.toList_filter,Array.toList_filter,List.filter_filter]
      congr 1
      funext y
      simp only[Array.contains_push]
      cases S.seen.contains y.born<;>cases hq:(y.born == e.born)<;>simp_all
     rw[h5,hl,List.filter_append,List.filter_cons];rw[hl,List.map_append,List.map_cons]at hnd
     have hn:=List.nodup_append.1 hnd
     have hn2:=List.nodup_cons.1 hn.2.1
     simp only[beq_self_eq_true,Bool.not_true,Bool.false_eq_true,if_false]
     congr 1
     ·rw[List.filter_eq_self];intro y hy
      have:y.born≠e.born:=hn.2.2 _ (List.mem_map_of_mem hy) _ (List.mem_cons_self ..)
      simpa using this
     ·rw[List.filter_eq_self];intro y hy
      have:y.born≠e.born:=fun h=>hn2.1 (by rw[←h];exact List.mem_map_of_mem hy)
      simpa using this
    refine⟨(some p,⟨S.es,S.clock,S.seen.push e.born⟩,a'++b'),setBlock w1 r (.mapIter (some m) S.clock (S.seen.push e.born) S.clock),⟨.come p a' b' ⟨S.es,S.clock,S.seen.push e.born⟩ e1 ⟨hO.all,hO.nd,hO.old⟩ ?_ ⟨e,S.seen,rfl,hmem,?_,?_⟩,rfl⟩,?_,?_⟩
    ·show (leftOf S.es (S.seen.push e.born)).toList.map _=_
     rw[hleft,List.map_append,a2E,List.map_append];rw[←e2,←e3];rfl
    ·exact (congrArg Prod.fst e4).symm
    ·exact (congrArg Prod.snd e4).symm
    ·simp only[execOp,st.ev hx,Sem.run_bind,hrun,Result.andThen_ok,Sem.run_pure]
     rw[show e.key=enc p.1 from (congrArg Prod.fst e4).symm,show e.val=p.2 from (congrArg Prod.snd e4).symm];rfl
    ·exact Mem.setBlock hm1)
  fun z hz=>k z.1 z.2.1 z.2.2 hz.1 hz.2
theorem b6J {p:κ×Value} (hm:∀w,Mem E I H w→w.heap[m]? = some S.mp) (h1:Res.any r (S.it m)∈H) (hO:S.Ok enc kvs) (hA:S.At enc p) (hx:ev L x=some (.pointer (some ⟨r,0,none⟩))):OV P n E I L H ⟨some d,.entry x,ty,pos,af,none⟩ (.tuple #[enc p.1,p.2]):=fun a w st mm=>by
 obtain⟨e,seen0,hs,he,hk,hv⟩:=hA
 have hr:w.heap[r]? = some (.mapIter (some m) S.clock (seen0.push e.born) S.clock):=by
  have:=mm.holds _ h1
  rw[←hs];exact this
 have hb:w.heap[m]? = some (.map S.es S.clock):=hm w mm
 simp only[execOp,st.ev hx,Sem.run_bind,run_entry_at w r m S.clock seen0 S.es S.clock e hr hb he hO.nd,Result.andThen_ok,Sem.run_pure,hk,hv]
theorem b3G (h:∀I',ILe I I'→I' m=some S.mp→SX n E I' L H K):SX n E I L (.any m S.mp::H) K:=by
 intro a w s mm
 have hh:w.heap[m]? = some S.mp:=mm.holds _ (List.mem_cons_self ..)
 exact h _ (IMap.pub_le _ (mm.priv _ (List.mem_cons_self ..) m rfl).1) (IMap.pub_same _ _ _) a w s (mm.pub (g:=m) rfl hh)
theorem a7y (h:I m=some S.mp):∀w,Mem E I H w→w.heap[m]? = some S.mp:=fun w mm=>mm.con m _ h
end
theorem ItS.Step.some {κ:Type} {enc:κ→Value} {kvs todo t':List (κ×Value)} {S S':ItS} {q:Option (κ×Value)} (h:ItS.Step enc kvs todo S q S' t') (hq:q.isSome=true) :
  ∃p a b,todo=a++p::b∧S'.Ok enc kvs∧S'.Todo enc (a++b)∧S'.At enc p∧q = .some p∧t'=a++b:=by
 cases h with
 |over h=>cases hq
 |come p a b S1 h h1 h2 h3=>exact⟨p,a,b,h,h1,h2,h3,rfl,rfl⟩
theorem ItS.Step.none {κ:Type} {enc:κ→Value} {kvs todo t':List (κ×Value)} {S S':ItS} {q:Option (κ×Value)} (h:ItS.Step enc kvs todo S q S' t') (hq:q.isSome=false):todo=[]∧q = .none∧S'=S:=by
 cases h with
 |over h=>exact⟨h,rfl,rfl⟩
 |come p a b S1 h h1 h2 h3=>cases hq
end Go.Sx
