
import Derived.Test.YtgmkjpafapgccaaGreatZTsb
import Derived.Laws.Bits64b
import Derived.Lib.Mul64
import Derived.Maps.RangeRun
import Derived.Test.YtgmkjpafapgccaaGreatChecked
set_option linter.all false
namespace Go.Sx
open Go
section
variable {P:Program} {ρ:Option Nat} {n:Sz} {E:Ent} {I:IMap} {L:LL} {H:List Res} {Q:Exit→Act→World→Prop} {ops:Array Oper} {K:Act→World→Prop}
variable {d ty:Nat} {pos:String} {af:Array Edge} {fo:Operand} {as_:List Operand} {ats:Array TypeId} {f:FuncId} {args:List Value} {g t:Nat} {cs:List Value} {w:World}
theorem b8h (mm:Mem E I H w) (hm:Res.blk g t cs∈H):ILe I (I.pub g (.cells cs.toArray t (0,0))):=IMap.pub_le _ (mm.priv _ hm g rfl).1
theorem b2c:ICells (I.pub g (.cells cs.toArray t (0,0))) g 0 cs:=fun j u hu=>⟨_,t,(0,0),IMap.pub_same _ _ _,by rw[Nat.zero_add];simpa using hu⟩
theorem b8i (mm:Mem E I H w) (hm:Res.blk g t cs∈H):Mem ⟨[],I.pub g (.cells cs.toArray t (0,0)),w⟩ (I.pub g (.cells cs.toArray t (0,0))) [] w:=
 ⟨Upd.refl _ _,fun b o hb=>by
  have hg:w.heap[g]? = some (.cells cs.toArray t (0,0)):=mm.holds _ hm;unfold IMap.pub at hb
  split at hb
  ·rename_i e;subst e;cases hb;exact hg
  ·exact mm.con b o hb,ILe.refl _,fun b hb=>.inl hb,fun _ h=>(by cases h),fun _ h=>(by cases h),List.nodup_nil⟩
theorem c3e {v:Value} (hm:Res.blk g t cs∈H) (hc:∀I2,ILe I I2→ICells I2 g 0 cs→FnI P f args.toArray I2 fun u _=>u=v) (h:a1w L fo as_=some (f,args)) (hd:Nat.blt d n.sz=true)
  (kk:SX n E I ((d,v)::L) H K):SX n E I L H (one P ops Q ⟨some d,.call { callee:=.value fo,args:=as_.toArray,argTypes:=ats },ty,pos,af,none⟩ K):=by
 intro a w s mm;have h1:=(hc _ (b8h mm hm) b2c).go w (b8i mm hm);unfold one;rw[if_pos (by rfl)];refine a8l ?_;unfold After at h1 ⊢
 rw[a7W s h ⟨some d,.call { callee:=.value fo,args:=as_.toArray,argTypes:=ats },ty,pos,af,none⟩ rfl (ats:=ats)]
 have key:∀e w'',a9p ⟨[],(I.pub g (.cells cs.toArray t (0,0))),w⟩ (fun u I' H'=>u=v∧H'=[]) e w''→(match e with | .returned v=>K (a.put (some d) v) w''|_=>False):=by
  rintro e w'' ⟨u,I',H',rfl,hm',rfl,rfl⟩;exact kk _ _ (s.put hd) (mm.other hm'.upd.os hm'.upd.tape hm'.upd.output hm'.upd.size (fun k hk=>hm'.upd.block k hk (by simp)))
 split at h1
 ·rename_i v w' hr;exact key _ _ h1
 ·rename_i f' args' w' hr;exact Calls.mono h1 key
 ·rename_i l f' tmps assign body w' hr;exact RoundIn.mono h1 key
 ·exact h1.elim
theorem d1v {p:Value→Res→Prop} (hm:Res.blk g t cs∈H) (hc:∀I2,ILe I I2→ICells I2 g 0 cs→FnX P f args.toArray I2 [] p) (h:a1w L fo as_=some (f,args)) (hd:Nat.blt d n.sz=true)
  (kk:∀u r,p u r→SX n E I ((d,u)::L) (r::H) K):SX n E I L H (one P ops Q ⟨some d,.call { callee:=.value fo,args:=as_.toArray,argTypes:=ats },ty,pos,af,none⟩ K):=by
 intro a w s mm;have h1:=(hc _ (b8h mm hm) b2c).go w (b8i mm hm);unfold one;rw[if_pos (by rfl)];refine a8l ?_;unfold After at h1 ⊢
 rw[a7W s h ⟨some d,.call { callee:=.value fo,args:=as_.toArray,argTypes:=ats },ty,pos,af,none⟩ rfl (ats:=ats)]
 have key:∀e w'',a9p ⟨[],(I.pub g (.cells cs.toArray t (0,0))),w⟩ (fun u I' H'=>I'=(I.pub g (.cells cs.toArray t (0,0)))∧∃r,H'=[r]∧p u r) e w''→(match e with | .returned v=>K (a.put (some d) v) w''|_=>False):=by
  rintro e w'' ⟨u,I',H',rfl,hm',rfl,r,rfl,hp⟩;refine kk u r hp _ _ (s.put hd) (mm.new hm'.upd.os hm'.upd.tape hm'.upd.output hm'.upd.size (fun k hk=>hm'.upd.block k hk (by simp)) (hm'.holds r (List.mem_cons_self ..)) fun b hb=>?_)
  rcases (hm'.priv r (List.mem_cons_self ..) b hb).2 with h|h
  ·exact h
  ·cases h
 split at h1
 ·rename_i v w' hr;exact key _ _ h1
 ·rename_i f' args' w' hr;exact Calls.mono h1 key
 ·rename_i l f' tmps assign body w' hr;exact RoundIn.mono h1 key
 ·exact h1.elim
theorem d1t {Hc:List Res} {post:Value→IMap→List Res→Prop} (hc:FnH P f args.toArray I Hc post) (h:a1w L fo as_=some (f,args)) (hd:Nat.blt d n.sz=true)
  (k:∀u I' H',ILe I I'→post u I' H'→SX n E I' ((d,u)::L) H' K) :
  SX n E I L Hc (one P ops Q ⟨some d,.call { callee:=.value fo,args:=as_.toArray,argTypes:=ats },ty,pos,af,none⟩ K):=by
 refine a4D (H':=Hc++[]) (by simp) ?_;refine a2H (Hc:=Hc) (H0:=[]) hc h hd fun u I' H' hI hp=>?_
 exact a4D (H':=H') (by simp) (k u I' H' hI hp)
end
section
variable {P:Program} {n:Sz} {E:Ent} {I:IMap} {L:LL} {H:List Res} {K:Act→World→Prop}
theorem a3S {g t:Nat} {cs:List Value} (cs2:List Value) (e:cs=cs2) (h:SX n E I L (.blk g t cs2::H) K):SX n E I L (.blk g t cs::H) K:=e▸h
theorem a6B {a:Res} (h:SX n E I L (a::H) K):SX n E I L ([a]++H) K:=h
theorem b3M {a b:Res} (h:SX n E I L (a::b::H) K):SX n E I L ([a,b]++H) K:=h
end
def a2p (ch:List Int):List Value:=ch.map ci
theorem a5Y (ch:List Int):(a2p ch).length=ch.length:=by simp[a2p]
theorem c6q {ch:List Int} {i:Nat} (h:i<ch.length):(a2p ch)[i]? = some (ci ch[i]):=by simp[a2p,h]
theorem a5Z (ch:List Int) (i:Nat) (x:Int):(a2p ch).set i (ci x)=a2p (ch.set i x):=by simp[a2p,List.map_set]
theorem c6r {I:IMap} {g:Nat} {ch:List Int} (h:ICells I g 0 (a2p ch)) (hl:ch.length≤9223372036854775807):RdS I (.slice (some ⟨g,0,none⟩) ch.length ch.length) ch:=by
 refine⟨some ⟨g,0,none⟩,ch.length,rfl,fun hp=>⟨g,0,rfl,fun i x hi=>⟨[ci x],fun j u hu=>?_,rfl⟩⟩,Nat.le_refl _,hl⟩;have h1:(a2p ch)[i]? = some (ci x):=by simp[a2p,hi]
 cases j with
 |zero=>
  have e:u=ci x:=by simpa using hu.symm
  subst e;have:=h i _ h1;have e2:0+i * Enc.k Int+0=0+i:=by show 0+i * 1+0=0+i;omega
  rw[e2];exact this
 |succ j=>simp at hu
theorem b0A (n:Nat):(List.replicate n [ci 0]).flatten=a2p (List.replicate n 0):=by
 induction n with
 |zero=>rfl
 |succ n ih=>rw[List.replicate_succ,List.flatten_cons,ih];rfl
theorem a6u {I:IMap} (ch:List Int):Flat I (a2p ch) ch:=by
 induction ch with
 |nil=>exact .nil
 |cons x r ih=>exact .cons rfl ih
theorem c2l {I:IMap} {xs:List Value} {l:List Int} (h:Flat I xs l):xs=a2p l:=by
 induction h with
 |nil=>rfl
 |cons h1 _ ih=>rw[ih];rw[show _=_ from h1];rfl
section
variable {P:Program} {ρ:Option Nat} {n:Sz} {E:Ent} {I I':IMap} {L:LL} {H H0:List Res} {Q:Exit→Act→World→Prop} {ops:Array Oper} {K:Act→World→Prop}
variable {d ty:Nat} {pos:String} {af:Array Edge} {fo:Operand} {as_:List Operand} {ats:Array TypeId} {f:FuncId} {args:List Value}
theorem a6w {post:Value→IMap→List Res→Prop} (hc:FnH P f args.toArray I [] post) (h:a1w L fo as_=some (f,args)) (hd:Nat.blt d n.sz=true)
  (k:∀v I' H',ILe I I'→post v I' H'→SX n E I' ((d,v)::L) (H'++H0) K) :
  SX n E I L H0 (one P ops Q ⟨some d,.call { callee:=.value fo,args:=as_.toArray,argTypes:=ats },ty,pos,af,none⟩ K):=a2H (Hc:=[]) hc h hd k
end
end Go.Sx
set_option linter.all false
namespace Go.Sx
open Go
theorem a5g {I:IMap} {g n:Nat} {ch:List Int} (h:ICells I g 0 (a2p ch)) (e:ch.length=n) (hl:n≤1000000):RdS I (.slice (some ⟨g,0,none⟩) n n) ch:=by
 subst e;exact c6r h oM
section
variable {c:List Kind} {l:List Rep} {pre:List Int} {r:Rep} {rs:List Rep}
theorem Mid.get (h:Mid c l pre (r::rs)):∃hp:pre.length<l.length,l[pre.length]=r:=by
 obtain⟨a,e1,e2,_⟩:=h.is;refine⟨by rw[e1,e2];simp,?_⟩;subst e1
 simp[e2]
theorem Mid.more (h:Mid c l pre rs) (hp:pre.length<l.length):∃r rs',rs=r::rs':=by
 cases rs with
 |nil=>have:=h.len;simp at this;omega
 |cons r rs'=>exact⟨r,rs',rfl⟩
theorem Mid.full (h:Mid c l pre rs) (hp:¬pre.length<l.length):rs=[]:=by
 have:=h.len;exact List.eq_nil_of_length_eq_zero oM
end
theorem a6m (r:Rep):chs r≤5:=by
 unfold chs
 split
 ·omega
 ·rename_i h
  have:=a3g (r:=r) (by simpa using h)
  split<;>omega
end Go.Sx
set_option linter.all false
namespace Go.Sx
open Go
section
variable {P:Program} {n:Sz} {E:Ent} {I:IMap} {L:LL} {H:List Res} {d ty t1 t2:Nat} {pos:String} {af:Array Edge} {x y:Operand} {a b:Int}
theorem d2S (hx:ev L x=some (.int .i64 a)) (hy:ev L y=some (.int .i64 b)):OV P n E I L H ⟨some d,.call { callee:=.builtin .max,args:=#[x,y],argTypes:=#[t1,t2] },ty,pos,af,none⟩ (.int .i64 (if b>a then b else a)):=
 (fun a w st _=>by simp[execOp,st.ev hx,st.ev hy,resolve,invoke,builtin,Builtin.max_,Builtin.max2])
theorem d5S (hx:ev L x=some (.int .i64 a)) (hy:ev L y=some (.int .i64 b)):OV P n E I L H ⟨some d,.call { callee:=.builtin .min,args:=#[x,y],argTypes:=#[t1,t2] },ty,pos,af,none⟩ (.int .i64 (if b<a then b else a)):=
 (fun a w st _=>by simp[execOp,st.ev hx,st.ev hy,resolve,invoke,builtin,Builtin.min_,Builtin.min2])
end
def a5s (most:Int):Nat→List Rep→Nat
 |n,[]=>n
 |n,r::rs=>if ((n:Nat):Int)≤most then a5s most (n * max 1 (chs r).toNat) rs else n
theorem c4X {most:Int} {l:List Rep} {i n:Nat} (h:i<l.length) (hn:((n:Nat):Int)≤most):a5s most n (l.drop i)=a5s most (n * max 1 (chs l[i]).toNat) (l.drop (i+1)):=by
 rw[List.drop_eq_getElem_cons h,a5s,if_pos hn]
theorem c8y {most:Int} {n:Nat} (hn:¬((n:Nat):Int)≤most):∀l:List Rep,a5s most n l=n
 | []=>rfl
 |r::l=>by rw[a5s,if_neg hn]
theorem c4W {most:Int}:∀(l:List Rep) (n:Nat),((a5s most n l:Nat):Int)≤most→((n * a3O l:Nat):Int)≤most
 | [],n,h=>by simpa[a5s,a3O]using h
 |r::l,n,h=>by
  rw[a5s]at h
  split at h
  ·have h1:=c4W l _ h
   have h2:n * a3O (r::l)≤n * max 1 (chs r).toNat * a3O l:=by
    rw[a3O,←Nat.mul_assoc];exact Nat.mul_le_mul_right _ (Nat.mul_le_mul_left _ (Nat.le_max_right _ _))
   omega
  ·rename_i h1;exact absurd h h1
def b9K (l:List Rep) (n:Int):Bool:=c8V l 12&&decide (((a5s n 1 l:Nat):Int)≤n)
theorem c5V {l:List Rep} {n:Int} (h:b9K l n=true):c8V l 12=true∧((a3O l:Nat):Int)≤n:=by
 simp only[b9K,Bool.and_eq_true,decide_eq_true_eq]at h
 refine⟨h.1,?_⟩;have:=c4W l 1 h.2
 rwa[Nat.one_mul]at this
end Go.Sx
set_option linter.all false
namespace Go.Sx
open Go
section
variable {P:Program} {ρ:Option Nat} {n:Sz} {E:Ent} {I I':IMap} {L:LL} {H:List Res} {K:Act→World→Prop} {Q:Exit→Act→World→Prop} {N:Act→World→Prop}
variable {α β γ δ ε ζ η θ:Type}
def c8J (n:Sz) (E:Ent) (Ix:α→β→γ→δ→ε→ζ→IMap) (Lx:α→β→γ→δ→ε→ζ→LL) (Hx:α→β→γ→δ→ε→ζ→List Res) (p:α→β→γ→δ→ε→ζ→Prop) (μ:α→β→γ→δ→ε→ζ→Nat) (x0:α) (x1:β) (x2:γ) (x3:δ) (x4:ε) (x5:ζ):Act→World→Prop:=
 fun a w=>∃y0 y1 y2 y3 y4 y5,p y0 y1 y2 y3 y4 y5∧μ y0 y1 y2 y3 y4 y5<μ x0 x1 x2 x3 x4 x5∧St n a (Lx y0 y1 y2 y3 y4 y5)∧Mem E (Ix y0 y1 y2 y3 y4 y5) (Hx y0 y1 y2 y3 y4 y5) w
theorem c9S (a0:α) (a1:β) (a2:γ) (a3:δ) (a4:ε) (a5:ζ) (Ix:α→β→γ→δ→ε→ζ→IMap) (Lx:α→β→γ→δ→ε→ζ→LL) (Hx:α→β→γ→δ→ε→ζ→List Res) (p:α→β→γ→δ→ε→ζ→Prop) (μ:α→β→γ→δ→ε→ζ→Nat) {c:Code}
  (h0:p a0 a1 a2 a3 a4 a5) (hI:Ix a0 a1 a2 a3 a4 a5=I) (hL:Sub (Lx a0 a1 a2 a3 a4 a5) L) (hH:Hx a0 a1 a2 a3 a4 a5=H)
  (round:∀x0 x1 x2 x3 x4 x5,p x0 x1 x2 x3 x4 x5→SX n E (Ix x0 x1 x2 x3 x4 x5) (Lx x0 x1 x2 x3 x4 x5) (Hx x0 x1 x2 x3 x4 x5) (c.wq ρ P (Exit.then (c8J n E Ix Lx Hx p μ x0 x1 x2 x3 x4 x5) Q))):SX n E I L H ((Code.loop c).wq ρ P Q):=
 a0x (α:=α×β×γ×δ×ε×ζ) (a0,a1,a2,a3,a4,a5) (fun q=>Ix q.1 q.2.1 q.2.2.1 q.2.2.2.1 q.2.2.2.2.1 q.2.2.2.2.2) (fun q=>Lx q.1 q.2.1 q.2.2.1 q.2.2.2.1 q.2.2.2.2.1 q.2.2.2.2.2) (fun q=>Hx q.1 q.2.1 q.2.2.1 q.2.2.2.1 q.2.2.2.2.1 q.2.2.2.2.2) (fun q=>p q.1 q.2.1 q.2.2.1 q.2.2.2.1 q.2.2.2.2.1 q.2.2.2.2.2) (fun q=>μ q.1 q.2.1 q.2.2.1 q.2.2.2.1 q.2.2.2.2.1 q.2.2.2.2.2) h0 hI hL hH
  fun ⟨x0,x1,x2,x3,x4,x5⟩ hp=>b3N (round x0 x1 x2 x3 x4 x5 hp) fun a w h=>a3n (fun e a w q=>by
   cases e with
   |normal=>obtain⟨y0,y1,y2,y3,y4,y5,h1,h2,h3,h4⟩:=q;exact⟨(y0,y1,y2,y3,y4,y5),h1,h2,h3,h4⟩
   |_=>exact q) h
theorem d1W {Ix:α→β→γ→δ→ε→ζ→IMap} {Lx:α→β→γ→δ→ε→ζ→LL} {Hx:α→β→γ→δ→ε→ζ→List Res} {p:α→β→γ→δ→ε→ζ→Prop} {μ:α→β→γ→δ→ε→ζ→Nat} {x0:α} {x1:β} {x2:γ} {x3:δ} {x4:ε} {x5:ζ} (y0:α) (y1:β) (y2:γ) (y3:δ) (y4:ε) (y5:ζ) (hp:p y0 y1 y2 y3 y4 y5) (hμ:μ y0 y1 y2 y3 y4 y5<μ x0 x1 x2 x3 x4 x5)
  (hI:Ix y0 y1 y2 y3 y4 y5=I) (hL:Sub (Lx y0 y1 y2 y3 y4 y5) L) (hH:Hx y0 y1 y2 y3 y4 y5=H):SX n E I L H (c8J n E Ix Lx Hx p μ x0 x1 x2 x3 x4 x5):=
 fun a w s m=>⟨y0,y1,y2,y3,y4,y5,hp,hμ,s.sub hL,by rw[hI,hH];exact m⟩
def c8K (n:Sz) (E:Ent) (Ix:α→β→γ→δ→ε→ζ→η→θ→IMap) (Lx:α→β→γ→δ→ε→ζ→η→θ→LL) (Hx:α→β→γ→δ→ε→ζ→η→θ→List Res) (p:α→β→γ→δ→ε→ζ→η→θ→Prop) (μ:α→β→γ→δ→ε→ζ→η→θ→Nat) (x0:α) (x1:β) (x2:γ) (x3:δ) (x4:ε) (x5:ζ) (x6:η) (x7:θ):Act→World→Prop:=
 fun a w=>∃y0 y1 y2 y3 y4 y5 y6 y7,p y0 y1 y2 y3 y4 y5 y6 y7∧μ y0 y1 y2 y3 y4 y5 y6 y7<μ x0 x1 x2 x3 x4 x5 x6 x7∧St n a (Lx y0 y1 y2 y3 y4 y5 y6 y7)∧Mem E (Ix y0 y1 y2 y3 y4 y5 y6 y7) (Hx y0 y1 y2 y3 y4 y5 y6 y7) w
theorem c1t (a0:α) (a1:β) (a2:γ) (a3:δ) (a4:ε) (a5:ζ) (a6:η) (a7:θ) (Ix:α→β→γ→δ→ε→ζ→η→θ→IMap) (Lx:α→β→γ→δ→ε→ζ→η→θ→LL) (Hx:α→β→γ→δ→ε→ζ→η→θ→List Res) (p:α→β→γ→δ→ε→ζ→η→θ→Prop) (μ:α→β→γ→δ→ε→ζ→η→θ→Nat) {c:Code}
  (h0:p a0 a1 a2 a3 a4 a5 a6 a7) (hI:Ix a0 a1 a2 a3 a4 a5 a6 a7=I) (hL:Sub (Lx a0 a1 a2 a3 a4 a5 a6 a7) L) (hH:Hx a0 a1 a2 a3 a4 a5 a6 a7=H)
  (round:∀x0 x1 x2 x3 x4 x5 x6 x7,p x0 x1 x2 x3 x4 x5 x6 x7→SX n E (Ix x0 x1 x2 x3 x4 x5 x6 x7) (Lx x0 x1 x2 x3 x4 x5 x6 x7) (Hx x0 x1 x2 x3 x4 x5 x6 x7) (c.wq ρ P (Exit.then (c8K n E Ix Lx Hx p μ x0 x1 x2 x3 x4 x5 x6 x7) Q))):SX n E I L H ((Code.loop c).wq ρ P Q):=
 a0x (α:=α×β×γ×δ×ε×ζ×η×θ) (a0,a1,a2,a3,a4,a5,a6,a7) (fun q=>Ix q.1 q.2.1 q.2.2.1 q.2.2.2.1 q.2.2.2.2.1 q.2.2.2.2.2.1 q.2.2.2.2.2.2.1 q.2.2.2.2.2.2.2) (fun q=>Lx q.1 q.2.1 q.2.2.1 q.2.2.2.1 q.2.2.2.2.1 q.2.2.2.2.2.1 q.2.2.2.2.2.2.1 q.2.2.2.2.2.2.2) (fun q=>Hx q.1 q.2.1 q.2.2.1 q.2.2.2.1 q.2.2.2.2.1 q.2.2.2.2.2.1 q.2.2.2.2.2.2.1 q.2.2.2.2.2.2.2) (fun q=>p q.1 q.2.1 q.2.2.1 q.2.2.2.1 q.2.2.2.2.1 q.2.2.2.2.2.1 q.2.2.2.2.2.2.1 q.2.2.2.2.2.2.2) (fun q=>μ q.1 q.2.1 q.2.2.1 q.2.2.2.1 q.2.2.2.2.1 q.2.2.2.2.2.1 q.2.2.2.2.2.2.1 q.2.2.2.2.2.2.2) h0 hI hL hH
  fun ⟨x0,x1,x2,x3,x4,x5,x6,x7⟩ hp=>b3N (round x0 x1 x2 x3 x4 x5 x6 x7 hp) fun a w h=>a3n (fun e a w q=>by
   cases e with
   |normal=>obtain⟨y0,y1,y2,y3,y4,y5,y6,y7,h1,h2,h3,h4⟩:=q;exact⟨(y0,y1,y2,y3,y4,y5,y6,y7),h1,h2,h3,h4⟩
   |_=>exact q) h
theorem b6O {Ix:α→β→γ→δ→ε→ζ→η→θ→IMap} {Lx:α→β→γ→δ→ε→ζ→η→θ→LL} {Hx:α→β→γ→δ→ε→ζ→η→θ→List Res} {p:α→β→γ→δ→ε→ζ→η→θ→Prop} {μ:α→β→γ→δ→ε→ζ→η→θ→Nat} {x0:α} {x1:β} {x2:γ} {x3:δ} {x4:ε} {x5:ζ} {x6:η} {x7:θ} (y0:α) (y1:β) (y2:γ) (y3:δ) (y4:ε) (y5:ζ) (y6:η) (y7:θ) (hp:p y0 y1 y2 y3 y4 y5 y6 y7) (hμ:μ y0 y1 y2 y3 y4 y5 y6 y7<μ x0 x1 x2 x3 x4 x5 x6 x7)
  (hI:Ix y0 y1 y2 y3 y4 y5 y6 y7=I) (hL:Sub (Lx y0 y1 y2 y3 y4 y5 y6 y7) L) (hH:Hx y0 y1 y2 y3 y4 y5 y6 y7=H):SX n E I L H (c8K n E Ix Lx Hx p μ x0 x1 x2 x3 x4 x5 x6 x7):=
 fun a w s m=>⟨y0,y1,y2,y3,y4,y5,y6,y7,hp,hμ,s.sub hL,by rw[hI,hH];exact m⟩
def d3m (n:Sz) (E:Ent) (Ix:α→β→γ→δ→ε→IMap) (Lx:α→β→γ→δ→ε→LL) (Hx:α→β→γ→δ→ε→List Res) (p:α→β→γ→δ→ε→Prop) (a:Act) (w:World):Prop:=∃x0 x1 x2 x3 x4,p x0 x1 x2 x3 x4∧St n a (Lx x0 x1 x2 x3 x4)∧Mem E (Ix x0 x1 x2 x3 x4) (Hx x0 x1 x2 x3 x4) w
theorem b5T {Ix:α→β→γ→δ→ε→IMap} {Lx:α→β→γ→δ→ε→LL} {Hx:α→β→γ→δ→ε→List Res} {p:α→β→γ→δ→ε→Prop} {c:Code}
  (h1:SX n E I L H (c.wq ρ P (Exit.then (d3m n E Ix Lx Hx p) Q))) (h2:∀x0 x1 x2 x3 x4,p x0 x1 x2 x3 x4→SX n E (Ix x0 x1 x2 x3 x4) (Lx x0 x1 x2 x3 x4) (Hx x0 x1 x2 x3 x4) N):SX n E I L H (c.wq ρ P (Exit.then N Q)):=fun a w s m=>
 a3n (fun e a w q=>by cases e<;>first|exact q|(obtain⟨x0,x1,x2,x3,x4,hp,hs,hm⟩:=q;exact h2 x0 x1 x2 x3 x4 hp a w hs hm)) (h1 a w s m)
theorem a5C {Ix:α→β→γ→δ→ε→IMap} {Lx:α→β→γ→δ→ε→LL} {Hx:α→β→γ→δ→ε→List Res} {p:α→β→γ→δ→ε→Prop} (x0:α) (x1:β) (x2:γ) (x3:δ) (x4:ε) (hp:p x0 x1 x2 x3 x4) (hL:Sub (Lx x0 x1 x2 x3 x4) L) (hH:Hx x0 x1 x2 x3 x4=H) (hI:Ix x0 x1 x2 x3 x4=I) :
  SX n E I L H (d3m n E Ix Lx Hx p):=fun _ _ s m=>⟨x0,x1,x2,x3,x4,hp,s.sub hL,by rw[hH,hI];exact m⟩
def d3n (n:Sz) (E:Ent) (Ix:α→β→γ→δ→ε→ζ→IMap) (Lx:α→β→γ→δ→ε→ζ→LL) (Hx:α→β→γ→δ→ε→ζ→List Res) (p:α→β→γ→δ→ε→ζ→Prop) (a:Act) (w:World):Prop:=∃x0 x1 x2 x3 x4 x5,p x0 x1 x2 x3 x4 x5∧St n a (Lx x0 x1 x2 x3 x4 x5)∧Mem E (Ix x0 x1 x2 x3 x4 x5) (Hx x0 x1 x2 x3 x4 x5) w
theorem c9Q {Ix:α→β→γ→δ→ε→ζ→IMap} {Lx:α→β→γ→δ→ε→ζ→LL} {Hx:α→β→γ→δ→ε→ζ→List Res} {p:α→β→γ→δ→ε→ζ→Prop} {c:Code}
  (h1:SX n E I L H (c.wq ρ P (Exit.then (d3n n E Ix Lx Hx p) Q))) (h2:∀x0 x1 x2 x3 x4 x5,p x0 x1 x2 x3 x4 x5→SX n E (Ix x0 x1 x2 x3 x4 x5) (Lx x0 x1 x2 x3 x4 x5) (Hx x0 x1 x2 x3 x4 x5) N):SX n E I L H (c.wq ρ P (Exit.then N Q)):=fun a w s m=>
 a3n (fun e a w q=>by cases e<;>first|exact q|(obtain⟨x0,x1,x2,x3,x4,x5,hp,hs,hm⟩:=q;exact h2 x0 x1 x2 x3 x4 x5 hp a w hs hm)) (h1 a w s m)
theorem a3H {Ix:α→β→γ→δ→ε→ζ→IMap} {Lx:α→β→γ→δ→ε→ζ→LL} {Hx:α→β→γ→δ→ε→ζ→List Res} {p:α→β→γ→δ→ε→ζ→Prop} (x0:α) (x1:β) (x2:γ) (x3:δ) (x4:ε) (x5:ζ) (hp:p x0 x1 x2 x3 x4 x5) (hL:Sub (Lx x0 x1 x2 x3 x4 x5) L) (hH:Hx x0 x1 x2 x3 x4 x5=H) (hI:Ix x0 x1 x2 x3 x4 x5=I) :
  SX n E I L H (d3n n E Ix Lx Hx p):=fun _ _ s m=>⟨x0,x1,x2,x3,x4,x5,hp,s.sub hL,by rw[hH,hI];exact m⟩
end
end Go.Sx
set_option linter.all false
namespace Go.Sx
open Go
theorem d4i {I:IMap} {xss rest:List (List Value)} {l:List Int} (h:FlatC I xss l) {i:Nat} (hi:i<l.length):(xss++rest)[i]? = some [ci l[i]]:=by
 obtain⟨c,h1,h2⟩:=h.at_ hi;obtain⟨h3,h4⟩:=List.getElem?_eq_some_iff.1 h1;rw[List.getElem?_append_left h3,h1,show c=[ci l[i]] from h2]
section
variable {X:List (List Int)} {i k j:Nat}
end
end Go.Sx
set_option linter.all false
namespace Go.Sx
open Go
def a5l {α:Type} (l:List α) (C:List Nat):List α:=C.filterMap fun i=>l[i]?
section
variable {α:Type} {l:List α} {C:List Nat}
theorem a8I {i:Nat} (h:i<l.length) (C:List Nat):a5l l (i::C)=l[i]::a5l l C:=by
 simp[a5l,List.filterMap_cons,h]
theorem a5m (h:∀i∈C,i<l.length):(a5l l C).length=C.length:=by
 induction C with
 |nil=>rfl
 |cons i C ih=>rw[a8I (h i (by simp))];simp[ih fun k hk=>h k (by simp[hk])]
theorem c7h (h:∀i∈C,i<l.length) {k:Nat} (hk:k<C.length):(a5l l C)[k]? = some (l[C[k]]'(h _ (List.getElem_mem hk))):=by
 induction C generalizing k with
 |nil=>simp at hk
 |cons i C ih=>
  rw[a8I (h i (by simp))]
  cases k with
  |zero=>simp
  |succ k=>simpa using ih (fun k hk=>h k (by simp[hk])) (by simpa using hk)
theorem c3E (h:∀i∈C,i<l.length) {k:Nat} (hk:k<C.length) (h2:k<(a5l l C).length):(a5l l C)[k]=l[C[k]]'(h _ (List.getElem_mem hk)):=by
 have:=c7h h hk;rw[List.getElem?_eq_getElem h2]at this
 exact Option.some.inj this
theorem c3F {x:α} (h:x∈a5l l C):x∈l:=by
 obtain⟨i,_,hi⟩:=List.mem_filterMap.1 h;exact List.mem_of_getElem? hi
theorem b5e (A B:List Nat):a5l l (A++B)=a5l l A++a5l l B:=by simp[a5l]
theorem b0V (l:List α):a5l l (List.range l.length)=l:=by
 refine List.ext_getElem ?_ fun k h1 h2=>?_
 ·rw[a5m (fun i hi=>List.mem_range.1 hi),List.length_range]
 ·rw[c3E (fun i hi=>List.mem_range.1 hi) (by simpa using h2)];simp
end
section
variable {c:List Kind} {l:List Rep} {R:Nat→Nat} {t:List Int} {r:Nat}
theorem d1g {n i:Nat} (h:i∈a5N R n r):i<n:=(c6K.1 h).1
end
end Go.Sx
set_option linter.all false
namespace Go.Sx
open Go
def okK (r:Rep) (k:Int):Bool:=!(decide (k<0)||decide (chs r≤k))
def d4b (l:List Rep) (ch:List Int) (i:Nat):Option Evt:=(at2 (fun r k=>r.options[k.toNat]?) l ch i).join
def a6F (l:List Rep) (ch:List Int) (n:Nat):List Evt:=(List.range n).filterMap (d4b l ch)
def a0J (l:List Rep) (ch:List Int):List Evt×Int:=if (decide (((l.length:Nat):Int)=(ch.length:Nat))&&a8o okK l ch l.length)=true then (a6F l ch l.length,0) else ([],1)
theorem b7P (l:List Rep) (ch:List Int) (i:Nat):a6F l ch (i+1)=a6F l ch i++(d4b l ch i).toList:=by
 rw[a6F,List.range_succ,List.filterMap_append,a6F]
 congr 1
theorem c2a {l:List Rep} {ch:List Int} {i:Nat} (h1:i<l.length) (h2:i<ch.length):d4b l ch i=l[i].options[ch[i].toNat]?:=by
 rw[d4b,a3l h1 h2];rfl
theorem d4e {l:List Rep} {ch:List Int} {i:Nat} {out:List Evt} (h1:i<l.length) (h2:i<ch.length) (hw:a6F l ch i=out) (h:ch[i]=(l[i].options.length:Nat)):a6F l ch (i+1)=out:=by
 rw[b7P,hw,c2a h1 h2,List.getElem?_eq_none oM];simp
theorem d0w {l:List Rep} {ch:List Int} {i:Nat} {out:List Evt} (h1:i<l.length) (h2:i<ch.length) (hw:a6F l ch i=out) (hk:ch[i].toNat<l[i].options.length):a6F l ch (i+1)=out++[l[i].options[ch[i].toNat]]:=by
 rw[b7P,hw,c2a h1 h2,List.getElem?_eq_getElem hk];rfl
theorem c2f (l:List Rep) (ch:List Int) (i:Nat):(a6F l ch i).length≤i:=by
 unfold a6F;exact Nat.le_trans (List.length_filterMap_le _ _) (by simp)
theorem d3K (r:Rep):chs r≤(r.options.length:Nat)+1:=by
 unfold chs
 split
 ·omega
 ·split<;>omega
theorem b5f {l:List Rep} {ch:List Int} (h:¬((l.length:Nat):Int)=(ch.length:Nat)):a0J l ch=([],1):=by
 simp[a0J,h]
theorem a6x {l:List Rep} {ch:List Int} {i:Nat} (h1:i<l.length) (h2:i<ch.length) (h:okK l[i] ch[i]=false):a0J l ch=([],1):=by
 simp[a0J,b3X h1 h1 h2 h]
theorem b5g {l:List Rep} {ch:List Int} (hl:((l.length:Nat):Int)=(ch.length:Nat)) (h:a8o okK l ch l.length=true):a0J l ch=(a6F l ch l.length,0):=by
 simp[a0J,hl,h]
end Go.Sx
set_option linter.all false
namespace Go.Sx
open Go
section
variable {c:List Kind} {l:List Rep} {t:List Int} {E:List Evt} {day:Int} {s:List Part}
end
def nmB (r:Rep) (z:ByteArray):Bool:=a0g r&&r.options.any fun e=>decide (z∈a1F e)
theorem a4i {r:Rep} {z:ByteArray}:nmB r z=true↔nm r z:=by
 simp[nmB,nm,List.any_eq_true]
def b1W (l:List Rep) (p:ByteArray):Option Nat:=(List.range l.length).find? fun i=>((l[i]?).map fun r=>nmB r p).getD false
def ofN (l:List Rep) (R:Nat→Nat) (p:ByteArray):List Nat:=match b1W l p with
 |some k=>a5N R l.length (R k)
 |none=>[]
def a0D (l:List Rep) (R:Nat→Nat) (p:ByteArray):List Rep:=a5l l (ofN l R p)
section
variable {l:List Rep} {R:Nat→Nat} {p q:ByteArray} {k:Nat}
theorem b6h (h:b1W l p=some k):∃hk:k<l.length,nm l[k] p:=by
 unfold b1W at h
 have h1:=List.mem_range.1 (List.mem_of_find?_eq_some h);have h2:=List.find?_some h
 simp only[List.getElem?_eq_getElem h1,Option.map_some,Option.getD_some]at h2
 exact⟨h1,a4i.1 h2⟩
theorem b0s:b1W l p=none↔∀k (hk:k<l.length),¬nm l[k] p:=by
 unfold b1W;rw[List.find?_eq_none]
 constructor
 ·intro h k hk hn;have:=h k (List.mem_range.2 hk)
  simp only[List.getElem?_eq_getElem hk,Option.map_some,Option.getD_some]at this
  exact this (a4i.2 hn)
 ·intro h k hk;have hk:=List.mem_range.1 hk
  simp only[List.getElem?_eq_getElem hk,Option.map_some,Option.getD_some]
  intro hn;exact h k hk (a4i.1 hn)
theorem c3i (hR:Rts l R) (hk:k<l.length) (h:nm l[k] p):ofN l R p=a5N R l.length (R k):=by
 unfold ofN
 cases hf:b1W l p with
 |none=>exact absurd h (b0s.1 hf k hk)
 |some j=>
  obtain⟨hj,hn⟩:=b6h hf
  show a5N R l.length (R j)=_
  rw[hR.share hj hk hn h]
theorem d1w (h:∀k (hk:k<l.length),¬nm l[k] p):ofN l R p=[]:=by unfold ofN;rw[b0s.2 h]
theorem b4X {i:Nat} (h:i∈ofN l R p):i<l.length:=by
 unfold ofN at h
 split at h
 ·exact d1g h
 ·cases h
theorem a6Z {r:Rep} (h:r∈a0D l R p):r∈l:=c3F h
theorem b0T:(a0D l R p).length≤l.length:=by
 unfold a0D;rw[a5m fun i hi=>b4X hi]
 have h1:(ofN l R p).length≤(List.range l.length).length:=by
  unfold ofN
  split
  ·exact List.length_filter_le _ _
  ·simp
 simpa using h1
end
end Go.Sx
set_option linter.all false
namespace Go.Sx
open Go
theorem Fst.rt_up {F:List Nat} (h:Fst F) (i:Nat):rt F (up F i)=rt F i:=by
 by_cases h1:up F i<i
 ·rw[a3J h1]
 ·rw[show up F i=i from Nat.le_antisymm (h i) (Nat.not_lt.1 h1)]
def b0J (F:List Nat):List (List Value):=F.map fun (x:Nat)=>[ci (x:Int)]
def nI (F:List Nat):List Int:=F.map fun (x:Nat)=>(x:Int)
section
variable {F:List Nat} {rest:List (List Value)} {i x:Nat}
theorem a4W (F:List Nat):Uk 1 (b0J F):=fun c hc=>by obtain⟨x,_,rfl⟩:=List.mem_map.1 hc;rfl
theorem a4M (F:List Nat):(b0J F).length=F.length:=by simp[b0J]
theorem b3v (h:i<F.length):(b0J F++rest)[i]? = some [ci ((F[i]:Nat):Int)]:=by
 rw[List.getElem?_append_left (by rw[a4M];exact h)];simp[b0J,h]
theorem b8t (h:i<F.length) (x:Nat):(b0J F++rest).set i [ci (x:Int)]=b0J (F.set i x)++rest:=by
 rw[List.set_append_left _ _ (by rw[a4M];exact h)];simp[b0J,List.map_set]
theorem c2W (F:List Nat) (x:Nat):(b0J F).flatten++[ci (x:Int)]=(b0J (F++[x])).flatten:=by simp[b0J]
theorem a4L (F:List Nat):(nI F).length=F.length:=by simp[nI]
theorem c2V (h:i<F.length) (h2:i<(nI F).length):(nI F)[i]=(F[i]:Nat):=by simp[nI]
end
def d6E (k:Int):Value:=.int .i64 k
theorem b3n {P:Program} {kt:TypeId} (h:P.underlying kt=some (.int .i64)):KeyOK P kt d6E where
 find:=by
  intro w k es kvs he
  have key:∀(es:List MapEntry) (kvs:List (Int×Value)) (i:Nat),es.map (fun e=>(e.key,e.val))=a1A d6E kvs→Instr.findNow (.int .i64) (d6E k) es i=some (a2z kvs k i):=by
   intro es
   induction es with
   |nil=>intro kvs i he;cases kvs<;>simp_all [a1A,Instr.findNow,a2z]
   |cons e es ih=>
    intro kvs i he
    cases kvs with
    |nil=>simp[a1A]at he
    |cons p kvs=>
     obtain⟨k',v⟩:=p
     simp only[List.map_cons,a1A,List.cons.injEq,Prod.mk.injEq]at he
     obtain⟨⟨h1,h2⟩,h3⟩:=he
     simp only[Instr.findNow,h1,d6E,Instr.sameNow,if_true]
     by_cases hk:k'=k
     ·subst hk;simp[a2z,h2]
     ·have h4:¬k=k':=fun e=>hk e.symm
      have h5:(k == k')=false:=by simpa using h4
      simp only[h5,a2z,if_neg hk]
      exact ih kvs (i+1) h3
  simp only[Instr.findKey,Sem.run_bind,run_underlying h,Result.andThen_ok,key es kvs 0 he]
  rfl
 check:=by
  intro w b k
  show (Instr.checkKey b (9999+1) kt (Value.int .i64 k)).run P w=_
  rw[Instr.checkKey]
  simp[run_underlying h]
 same:=by
  intro k
  show (IntKind.i64 == IntKind.i64&&k == k)=true
  simp
section
variable {P:Program} {n:Sz} {E:Ent} {I:IMap} {L:LL} {H:List Res} {K:Act→World→Prop} {α:Type} {f:α→Res} {l:List α} {k:Nat} {a b c d e:Res}
end
abbrev Lst:=Value×List Nat
section
variable {P:Program} {n:Sz} {E:Ent} {I:IMap} {L:LL} {H:List Res} {K:Act→World→Prop} {e:Nat}
end
section
variable {P:List Lst} {rest:List (List Value)} {k:Nat}
end
section
variable {n:Sz} {E:Ent} {I:IMap} {L:LL} {H:List Res} {K:Act→World→Prop} {e:Nat} {v:Value} {q:List Nat} {x:Nat}
end
section
variable {R:Nat→Nat} {i k r:Nat}
end
theorem d1f {kvs:List (ByteArray×Value)} {fm:ByteArray→Option Nat} (hM:∀z,a4h kvs z=(fm z).map fun (q:Nat)=>Value.int .i64 (q:Int)) (k:ByteArray) (i:Nat):∀z,a4h (a4I kvs k (.int .i64 (i:Int))) z=(if k=z then some i else fm z).map fun (q:Nat)=>Value.int .i64 (q:Int):=fun z=>by
 rw[a7C,hM z];split<;>rfl
theorem b8k {a:Prop} {k i j:Nat} {z:ByteArray} {ns:List ByteArray} (hj:j<ns.length) (h:a∨(k=i∧z∈ns.take (j+1))):(a∨(k=i∧z∈ns.take j))∨(k=i∧z=ns[j]):=by
 rcases h with h|⟨h1,h2⟩
 ·exact .inl (.inl h)
 ·rw[←a0c hj]at h2
  rcases List.mem_append.1 h2 with h2|h2
  ·exact .inl (.inr ⟨h1,h2⟩)
  ·exact .inr ⟨h1,List.mem_singleton.1 h2⟩
theorem d1e {l:List Rep} {i k:Nat} {z:ByteArray} {ns:List ByteArray} (hi:i<l.length) (hn:a9N l[i] ns) (h:k<i+1∧∃h:k<l.length,nm l[k] z):(k<i∧∃h:k<l.length,nm l[k] z)∨(k=i∧z∈ns):=by
 obtain⟨h1,h2,h3⟩:=h
 rcases Nat.lt_or_ge k i with h4|h4
 ·exact .inl ⟨h4,h2,h3⟩
 ·obtain rfl:k=i:=oM;exact .inr ⟨rfl,(d1k hn z).2 h3⟩
end Go.Sx
set_option linter.all false
namespace Go.Sx
open Go
section
variable {P:Program} {ρ:Option Nat} {n:Sz} {E:Ent} {I:IMap} {L:LL} {H:List Res} {Q:Exit→Act→World→Prop} {ops:Array Oper} {K:Act→World→Prop}
variable {α:Type} [Enc α] {d ty:Nat} {pos:String} {af:Array Edge} {x y:Operand}
theorem Flat.rda {I:IMap} {g:Nat} {ws:List Value} {l:List α} (hF:Flat I ws l) (hc:ICells I g 0 ws):RdA I (some ⟨g,0,none⟩) l:=fun _=>
 ⟨g,0,rfl,fun i x hi=>by
  obtain⟨vs,h1,h2⟩:=hF.at_ i x hi;refine⟨vs,fun j u hu=>?_,h1⟩;have h3:=hc _ _ (h2 j u hu);rw[Nat.zero_add]at h3
  rw[Nat.zero_add]
  exact h3⟩
end
end Go.Sx
set_option linter.all false
namespace Go.Sx
open Go
abbrev Row:=Nat×List Bool
section
variable {Q:List Row} {rest:List (List Value)} {k:Nat}
end
section
variable {P:Program} {n:Sz} {E:Ent} {I:IMap} {L:LL} {H:List Res} {K:Act→World→Prop} {e:Nat}
end
section
variable {c:List Kind} {l:List Rep} {R:Nat→Nat} {i j n r:Nat}
theorem c8z:∀{a b:List Rep},a.Sublist b→(∀r∈b,chs r≠0)→a3O a≤a3O b:=by
 intro a b h
 induction h with
 |slnil=>intro _;exact Nat.le_refl _
 |cons x h ih=>
  intro hp;have h1:=ih fun r hr=>hp r (by simp[hr])
  have h2:=hp x (by simp);have h3:=b0i x;rw[a3O];exact Nat.le_trans h1 (Nat.le_mul_of_pos_left _ oM)
 |cons_cons x h ih=>
  intro hp;rw[a3O,a3O];exact Nat.mul_le_mul_left _ (ih fun r hr=>hp r (by simp[hr]))
theorem c7k (n r:Nat):(a5l l (a5N R l.length r)).Sublist l:=by
 have:(a5N R l.length r).Sublist (List.range l.length):=List.filter_sublist;have h2:=this.filterMap fun i=>l[i]?
 have h3:(List.range l.length).filterMap (fun i=>l[i]?)=l:=b0V l;rw[h3]at h2
 exact h2
end
theorem FnV.cast {P:Program} {f:FuncId} {args:Array Value} {I:IMap} {v u:Value} (h:FnV P f args I v) (e:v=u):FnV P f args I u:=e▸h
section
variable {Q:List Row} {M:Nat→Int→Bool} {l:List Rep} {i n g q:Nat} {k:Int} {c:List Kind}
end
end Go.Sx
set_option linter.all false
namespace Go.Sx
open Go
structure Plc where
 into:ByteArray
 slot:ByteArray
 deriving DecidableEq
def Plc.cells (x:Plc):List Value:=[.string x.into,.string x.slot]
instance:Enc Plc where
 k:=2
 rd _ vs x:=vs=x.cells
 len h:=by rw[h];rfl
 mono _ h:=h
 one h:=by rw[h];rfl
theorem b8T {x y:ByteArray} (h:sLt y x=false) (hn:y≠x):sLt x y=true:=by
 cases h2:sLt x y with
 |true=>rfl
 |false=>exact absurd (b3J h h2) hn
def d1C (s:List Part) (p:ByteArray):Part:=(a0e s p).getD zPart
def d1J (p:ByteArray) (s:List Part):Plc:=⟨(d1C s p).into,(d1C s p).slot⟩
def rootGo (s:List Part):Nat→ByteArray→ByteArray
 |0,_=>a0M
 |n+1,p=>match a0e s p with
  |none=>a0M
  |some q=>if q.into=a0M then p else rootGo s n q.into
def d1Z (p:ByteArray) (s:List Part):ByteArray:=rootGo s s.length p
def d8y (c:List Kind) (l own:List Rep):Int:=
 if a1I c=false then 1 else if l.any (fun r=>!a0g r)=true then 1 else if own=[] then 2 else if (d6A c own 4096).2≠0 then (d6A c own 4096).2 else if (d6A c own 4096).1.length=4096 then 7 else 0
section
variable {c:List Kind} {s a b:List Part} {p:ByteArray} {q:Part} {D:ByteArray→Bool}
theorem Spl.rootGo (h:Spl D s a b):∀(n:Nat) (p:ByteArray),D p=true→rootGo s n p=Go.Sx.rootGo a n p
 |0,_,_=>rfl
 |n+1,p,hp=>by
  simp only[Go.Sx.rootGo,h.find hp]
  cases hq:a0e a p with
  |none=>rfl
  |some q=>
   show (if q.into=a0M then p else _)=(if q.into=a0M then p else _)
   by_cases hi:q.into=a0M
   ·rw[if_pos hi,if_pos hi]
   ·rw[if_neg hi,if_neg hi];exact Spl.rootGo h n _ ((h.na q ((a1E h.ia).1 hq).1).2.resolve_left hi)
theorem Spl.place (h:Spl D s a b) (hp:D p=true):d1J p s=d1J p a:=by unfold d1J d1C;rw[h.find hp]
end
end Go.Sx
set_option linter.all false
namespace Go.Sx
open Go
def trT (t:Int):Int:=if t=0∨t=2 then t else 1
def d4J (t:Int):Int:=2-trT t
def b3Y (a b:Int):Int:=min (trT a) (trT b)
def orT (a b:Int):Int:=max (trT a) (trT b)
def c8q (b:Bool):Int:=if b=true then 2 else 0
theorem b5z (t:Int):0≤trT t∧trT t≤2:=by unfold trT;split<;>omega
structure Cnc where
 part:ByteArray
 rule:ByteArray
 to:Int
 deriving DecidableEq
def Cnc.cells (x:Cnc):List Value:=[.string x.part,.string x.rule,ci x.to]
instance:Enc Cnc where
 k:=3
 rd _ vs x:=vs=x.cells
 len h:=by rw[h];rfl
 mono _ h:=h
 one h:=by rw[h];rfl
structure Sbu where
 kind:ByteArray
 slot:ByteArray
 other:ByteArray
 twin:ByteArray
 to:Int
 deriving DecidableEq
def Sbu.cells (x:Sbu):List Value:=[.string x.kind,.string x.slot,.string x.other,.string x.twin,ci x.to]
instance:Enc Sbu where
 k:=5
 rd _ vs x:=vs=x.cells
 len h:=by rw[h];rfl
 mono _ h:=h
 one h:=by rw[h];rfl
def Sbu.eqB (a b:Sbu):Bool:=decide (a.kind=b.kind)&&(decide (a.slot=b.slot)&&(decide (a.other=b.other)&&(decide (a.twin=b.twin)&&(decide (a.to=b.to)&&true))))
theorem Sbu.eqB_eq (a b:Sbu):Sbu.eqB a b=decide (a=b):=by
 cases a;cases b;simp[Sbu.eqB]
def b1T (part rule:ByteArray) (day:Int) (x:Cnc):Bool:=(decide (x.part=part)&&decide (x.rule=rule))&&decide (day≤x.to)
def b6b (l:List Cnc) (part rule:ByteArray) (day:Int):Bool:=l.any (b1T part rule day)
def a6X (c:List Kind) (kind name other:ByteArray):Bool:=
 ((b5u c kind name).isSome&&decide (a4G (fun x=>decide (other=x)) ((b5u c kind name).getD c8C).kinds≥0))&&decide (a4G (fun x=>decide (other=x)) ((b5u c kind name).getD c8C).kinds<((b5u c kind name).getD c8C).normal)
def b0a (p:Part) (slot:ByteArray) (x:Part):Bool:=(decide (x.into=p.into)&&decide (x.slot=slot))&&decide (x.kind=p.kind)
def a9d (s:List Part) (p h:Part) (day:Int) (u:Sbu):Bool:=(decide (u=⟨h.kind,p.slot,p.kind,u.twin,u.to⟩)&&decide (day≤u.to))&&(decide (u.twin=⟨#[]⟩)||s.any (b0a p u.twin))
def a9o (c:List Kind) (subs:List Sbu) (s:List Part) (part:ByteArray) (day:Int):Bool:=
 if (!(a0e s part).isSome||decide (((a0e s part).getD zPart).into=⟨#[]⟩))=true then (a0e s part).isSome
 else if (a0e s ((a0e s part).getD zPart).into).isSome=false then false
 else if a6X c ((a0e s ((a0e s part).getD zPart).into).getD zPart).kind ((a0e s part).getD zPart).slot ((a0e s part).getD zPart).kind=true then true
 else subs.any (a9d s ((a0e s part).getD zPart) ((a0e s ((a0e s part).getD zPart).into).getD zPart) day)
section
variable {c:List Kind} {subs:List Sbu} {s:List Part} {part:ByteArray} {day:Int}
theorem c3D (h:(!(a0e s part).isSome||decide (((a0e s part).getD zPart).into=⟨#[]⟩))=true):a9o c subs s part day=(a0e s part).isSome:=by unfold a9o;rw[if_pos h]
theorem d1D (h:(!(a0e s part).isSome||decide (((a0e s part).getD zPart).into=⟨#[]⟩))=false) (h2:(a0e s ((a0e s part).getD zPart).into).isSome=false):a9o c subs s part day=false:=by
 unfold a9o;rw[if_neg (by rw[h];decide),if_pos h2]
theorem d1E (h:(!(a0e s part).isSome||decide (((a0e s part).getD zPart).into=⟨#[]⟩))=false) (h2:(a0e s ((a0e s part).getD zPart).into).isSome=true) (h3:a6X c ((a0e s ((a0e s part).getD zPart).into).getD zPart).kind ((a0e s part).getD zPart).slot ((a0e s part).getD zPart).kind=true):a9o c subs s part day=true:=by
 unfold a9o;rw[if_neg (by rw[h];decide),if_neg (by rw[h2];decide),if_pos h3]
theorem d1F (h:(!(a0e s part).isSome||decide (((a0e s part).getD zPart).into=⟨#[]⟩))=false) (h2:(a0e s ((a0e s part).getD zPart).into).isSome=true) (h3:a6X c ((a0e s ((a0e s part).getD zPart).into).getD zPart).kind ((a0e s part).getD zPart).slot ((a0e s part).getD zPart).kind=false) :
  a9o c subs s part day=subs.any (a9d s ((a0e s part).getD zPart) ((a0e s ((a0e s part).getD zPart).into).getD zPart) day):=by
 unfold a9o;rw[if_neg (by rw[h];decide),if_neg (by rw[h2];decide),if_neg (by rw[h3];decide)]
end
theorem d2I {I:IMap} {p h:Part} {q q2:Value} (h1:RdS I q p.props) (h2:RdS I q2 h.props):(p.cells q++h.cells q2).all (·.oneCell')=true:=by
 have e1:=Enc.one (α:=Part) (I:=I) (vs:=p.cells q) (x:=p) ⟨q,rfl,h1⟩;have e2:=Enc.one (α:=Part) (I:=I) (vs:=h.cells q2) (x:=h) ⟨q2,rfl,h2⟩;rw[List.all_append,e1,e2];rfl
section
variable {α:Type} {p:α→Bool} {l:List α} {i:Nat}
theorem b2L (h:i<l.length) (hp:p l[i]=true):l.any p=true:=List.any_eq_true.2 ⟨_,List.getElem_mem h,hp⟩
theorem b5P (h:∀j x,j<i→l[j]? = some x→p x=false) (hi:¬i<l.length):l.any p=false:=by
 rw[List.any_eq_false];intro x hx;obtain⟨j,hj,rfl⟩:=List.getElem_of_mem hx;rw[h j _ oM (List.getElem?_eq_getElem hj)];decide
end
end Go.Sx
set_option linter.all false
namespace Go.Sx
open Go
open Go.ChangeMaps (setBlock)
structure ItS where
 es:Array MapEntry
 clock:Nat
 seen:Array Nat
def ItS.it (S:ItS) (m:Nat):Obj:=.mapIter (some m) S.clock S.seen S.clock
def ItS.mp (S:ItS):Obj:=.map S.es S.clock
structure ItS.Ok {κ:Type} (enc:κ→Value) (kvs:List (κ×Value)) (S:ItS):Prop where
 all:S.es.toList.map (fun e=>(e.key,e.val))=a1A enc kvs
 nd:(S.es.toList.map (·.born)).Nodup
 old:∀e∈S.es.toList,e.born<S.clock
def ItS.Todo {κ:Type} (enc:κ→Value) (todo:List (κ×Value)) (S:ItS):Prop:=(leftOf S.es S.seen).toList.map (fun e=>(e.key,e.val))=a1A enc todo
def ItS.At {κ:Type} (enc:κ→Value) (p:κ×Value) (S:ItS):Prop:=∃(e:MapEntry) (seen0:Array Nat),S.seen=seen0.push e.born∧e∈S.es.toList∧e.key=enc p.1∧e.val=p.2
inductive ItS.Step {κ:Type} (enc:κ→Value) (kvs todo:List (κ×Value)) (S:ItS):Option (κ×Value)→ItS→List (κ×Value)→Prop
 |over (h:todo=[]):ItS.Step enc kvs todo S none S todo
 |come (p:κ×Value) (a b:List (κ×Value)) (S':ItS) (h:todo=a++p::b) (h1:S'.Ok enc kvs) (h2:S'.Todo enc (a++b)) (h3:S'.At enc p):ItS.Step enc kvs todo S (some p) S' (a++b)
def c6O {κ:Type} (enc:κ→Value):Option (κ×Value)→Array Value
 |none=>#[.bool false]
 |some p=>#[.bool true,enc p.1,p.2]
theorem b0K {κ:Type} (enc:κ→Value) (q:Option (κ×Value)):(c6O enc q)[0]? = some (.bool q.isSome):=by cases q<;>rfl
theorem c5P {κ:Type} {enc:κ→Value} {x:Value×Value}:∀{l a b:List (Value×Value)} {todo:List (κ×Value)},l=a1A enc todo→l=a++x::b→∃(p:κ×Value) (a' b':List (κ×Value)),todo=a'++p::b'∧a1A enc a'=a∧a1A enc b'=b∧(enc p.1,p.2)=x
 |_,a,b,todo,rfl,h=>by
  have h1:todo.map (fun p=>(enc p.1,p.2))=a++x::b:=h;obtain⟨a',c',rfl,h2,h3⟩:=List.map_eq_append_iff.1 h1;obtain⟨p,b',rfl,h4,h5⟩:=List.map_eq_cons_iff.1 h3;exact⟨p,a',b',rfl,h2,h5,h4⟩
section
variable {P:Program} {ρ:Option Nat} {n:Sz} {E:Ent} {I:IMap} {L:LL} {H:List Res} {Q:Exit→Act→World→Prop} {ops:Array Oper} {K:Act→World→Prop}
variable {d ty:Nat} {pos:String} {af:Array Edge} {x y:Operand} {κ:Type} [DecidableEq κ] {enc:κ→Value} {kvs todo:List (κ×Value)} {S:ItS} {m r:Nat}
theorem a5o (h:∀S:ItS,S.Ok enc kvs→S.Todo enc kvs→S.seen=#[]→SX n E I L (.any m S.mp::H) K):SX n E I L (.mp m (a1A enc kvs)::H) K:=by
 intro a w s mm;obtain⟨entries,clock,h1,h2,h3,h4⟩:=mm.mp (List.mem_cons_self ..);refine h ⟨entries,clock,#[]⟩ ⟨h2,h3,h4⟩ ?_ rfl a w s (mm.step rfl ⟨rfl,Nat.le_refl _⟩ rfl (Nat.le_refl _) (fun _ _ _=>rfl) h1 (fun g hg=>.inl hg));unfold ItS.Todo leftOf;rw[show (entries.filter fun e=>!(#[]:Array Nat).contains e.born)=entries from Array.filter_eq_self.2 (fun x hx=>by simp)];exact h2
theorem c0L (hO:S.Ok enc kvs) (h:SX n E I L (.mp m (a1A enc kvs)::H) K):SX n E I L (.any m S.mp::H) K:=by
 intro a w s mm;refine h a w s (mm.step rfl ⟨rfl,Nat.le_refl _⟩ rfl (Nat.le_refl _) (fun _ _ _=>rfl) ⟨S.mp,mm.holds _ (List.mem_cons_self ..),S.es,S.clock,rfl,hO.all,hO.nd,hO.old⟩ (fun g hg=>.inl hg))
theorem b3A {mt kt et:Nat} (hm:∀w,Mem E I H w→w.heap[m]? = some S.mp) (hS:S.seen=#[]) (ht:P.underlying mt=some (.map kt et)) (hx:ev L x=some (.map (some m))) (hd:Nat.blt d n.sz=true)
  (k:∀r,SX n E I ((d,.pointer (some ⟨r,0,none⟩))::L) (.any r (S.it m)::H) K):SX n E I L H (one P ops Q ⟨some d,.range mt x,ty,pos,af,none⟩ K):=
 a9n (fun r:Nat=>.pointer (some ⟨r,0,none⟩)) (fun _=>I) (fun r=>.any r (S.it m)::H) (fun _=>True) hd
  (fun a w st mm=>by
   have hb:w.heap[m]? = some (.map S.es S.clock):=hm w mm;refine⟨w.heap.size,w.alloc (.mapIter (some m) S.clock #[] S.clock),trivial,?_,mm.new rfl ⟨rfl,Nat.le_refl _⟩ rfl (by simp) (fun k hk=>a5b w _ k hk) (by show (w.alloc _).heap[w.heap.size]? = _;rw[heap_alloc_new];simp[ItS.it,hS]) (fun g hg=>by simp only[Res.foot,Option.some.injEq]at hg;omega)⟩
   simp only[execOp,st.ev hx,Sem.run_bind,run_range_map w mt kt et m S.es S.clock ht hb,Result.andThen_ok,Sem.run_pure]) fun r _=>k r
theorem b6B {mt kt et:Nat} (hS:S.seen=#[]) (ht:P.underlying mt=some (.map kt et)) (hx:ev L x=some (.map (some m))) (hd:Nat.blt d n.sz=true)
  (k:∀r,SX n E I ((d,.pointer (some ⟨r,0,none⟩))::L) (.any r (S.it m) :: .any m S.mp::H) K):SX n E I L (.any m S.mp::H) (one P ops Q ⟨some d,.range mt x,ty,pos,af,none⟩ K):=
 b3A (fun w mm=>mm.holds _ (List.mem_cons_self ..)) hS ht hx hd k
theorem Mem.setBlock {w:World} {o o':Obj} (mm:Mem E I (.any r o::H) w):Mem E I (.any r o'::H) (setBlock w r o'):=by
 have hr:w.heap[r]? = some o:=mm.holds _ (List.mem_cons_self ..);have hlt:r<w.heap.size:=(Array.getElem?_eq_some_iff.1 hr).1;refine mm.step rfl ⟨rfl,Nat.le_refl _⟩ rfl (by simp[ChangeMaps.setBlock]) (fun k hk hne=>?_) (by show (ChangeMaps.setBlock w r o').heap[r]? = _;simp[ChangeMaps.setBlock,hlt]) (fun g hg=>.inl hg);have:r≠k:=fun e=>hne (by rw[←e];rfl)
 simp[ChangeMaps.setBlock,Array.getElem?_setIfInBounds_ne this]
theorem b6A (hm:∀w,Mem E I (.any r (S.it m)::H) w→w.heap[m]? = some S.mp) (hO:S.Ok enc kvs) (hT:S.Todo enc todo) (hx:ev L x=some (.pointer (some ⟨r,0,none⟩))) (hd:Nat.blt d n.sz=true)
  (k:∀q S' todo',ItS.Step enc kvs todo S q S' todo'→S'.mp=S.mp→SX n E I ((d,.tuple (c6O enc q))::L) (.any r (S'.it m)::H) K) :
  SX n E I L (.any r (S.it m)::H) (one P ops Q ⟨some d,.next x false,ty,pos,af,none⟩ K):=
 a9n (α:=Option (κ×Value)×ItS×List (κ×Value)) (fun z=>.tuple (c6O enc z.1)) (fun _=>I) (fun z=>.any r (z.2.1.it m)::H) (fun z=>ItS.Step enc kvs todo S z.1 z.2.1 z.2.2∧z.2.1.mp=S.mp) hd
  (fun a w st mm=>by
   have hr:w.heap[r]? = some (.mapIter (some m) S.clock S.seen S.clock):=mm.holds (.any r (S.it m)) (List.mem_cons_self ..);have hb:w.heap[m]? = some (.map S.es S.clock):=hm w mm
   rcases run_next_at (P:=P) w ty r m S.clock S.clock S.seen S.es S.clock hr hb hO.old (Nat.le_refl _) with ⟨h0,hrun⟩|⟨e,he,w1,hw1,hrun⟩
   ·refine⟨(none,S,todo),w,⟨.over ?_,rfl⟩,by simp only[execOp,st.ev hx,Sem.run_bind,hrun,Result.andThen_ok,Sem.run_pure];rfl,mm⟩;have h1:(leftOf S.es S.seen).toList=[]:=List.eq_nil_of_length_eq_zero (by simpa using h0);unfold ItS.Todo at hT
    rw[h1]at hT
    cases todo with
    |nil=>rfl
    |cons p t=>simp[a1A]at hT
   ·have hm1:Mem E I (.any r (S.it m)::H) w1:=by rcases hw1 with rfl|rfl;exact mm;exact mm.drew
    obtain⟨l1,l2,hl⟩:=List.append_of_mem he;have hT':=hT;unfold ItS.Todo at hT'
    rw[hl,List.map_append,List.map_cons]at hT'
    obtain⟨p,a',b',e1,e2,e3,e4⟩:=c5P hT'.symm.symm rfl
    have hmem:e∈S.es.toList:=by
     have:e∈(S.es.filter fun e=>!S.seen.contains e.born).toList:=he
     simp at this;simpa using this.1
    have hnd:((leftOf S.es S.seen).toList.map (·.born)).Nodup:=by
     have hs:List.Sublist (leftOf S.es S.seen).toList S.es.toList:=by
      unfold leftOf;rw[Array.toList_filter];exact List.filter_sublist
     exact (hs.map _).nodup hO.nd
    have hleft:(leftOf S.es (S.seen.push e.born)).toList=l1++l2:=by
     have h5:(leftOf S.es (S.seen.push e.born)).toList=(leftOf S.es S.seen).toList.filter (fun y=>!(y.born == e.born)):=by
      unfold leftOf;rw[Array.toList_filter,Array.toList_filter,List.filter_filter]
      congr 1
      funext y
      simp only[Array.contains_push]
      cases S.seen.contains y.born<;>cases hq:(y.born == e.born)<;>simp_all
     rw[h5,hl,List.filter_append,List.filter_cons];rw[hl,List.map_append,List.map_cons]at hnd
     have hn:=List.nodup_append.1 hnd;have hn2:=List.nodup_cons.1 hn.2.1
     simp only[beq_self_eq_true,Bool.not_true,Bool.false_eq_true,if_false]
     congr 1
     ·rw[List.filter_eq_self];intro y hy;have:y.born≠e.born:=hn.2.2 _ (List.mem_map_of_mem hy) _ (List.mem_cons_self ..)
      simpa using this
     ·rw[List.filter_eq_self];intro y hy;have:y.born≠e.born:=fun h=>hn2.1 (by rw[←h];exact List.mem_map_of_mem hy)
      simpa using this
    refine⟨(some p,⟨S.es,S.clock,S.seen.push e.born⟩,a'++b'),setBlock w1 r (.mapIter (some m) S.clock (S.seen.push e.born) S.clock),⟨.come p a' b' ⟨S.es,S.clock,S.seen.push e.born⟩ e1 ⟨hO.all,hO.nd,hO.old⟩ ?_ ⟨e,S.seen,rfl,hmem,?_,?_⟩,rfl⟩,?_,?_⟩
    ·show (leftOf S.es (S.seen.push e.born)).toList.map _=_
     rw[hleft,List.map_append,a1A,List.map_append];rw[←e2,←e3];rfl
    ·exact (congrArg Prod.fst e4).symm
    ·exact (congrArg Prod.snd e4).symm
    ·simp only[execOp,st.ev hx,Sem.run_bind,hrun,Result.andThen_ok,Sem.run_pure]
     rw[show e.key=enc p.1 from (congrArg Prod.fst e4).symm,show e.val=p.2 from (congrArg Prod.snd e4).symm];rfl
    ·exact Mem.setBlock hm1)
  fun z hz=>k z.1 z.2.1 z.2.2 hz.1 hz.2
theorem c3g (hO:S.Ok enc kvs) (hT:S.Todo enc todo) (hx:ev L x=some (.pointer (some ⟨r,0,none⟩))) (hd:Nat.blt d n.sz=true)
  (k:∀q S' todo',ItS.Step enc kvs todo S q S' todo'→SX n E I ((d,.tuple (c6O enc q))::L) (.any r (S'.it m) :: .any m S'.mp::H) K) :
  SX n E I L (.any r (S.it m) :: .any m S.mp::H) (one P ops Q ⟨some d,.next x false,ty,pos,af,none⟩ K):=
 b6A (fun w mm=>mm.holds (.any m S.mp) (List.mem_cons_of_mem _ (List.mem_cons_self ..))) hO hT hx hd fun q S' t' hs e=>e▸k q S' t' hs
theorem b9i {p:κ×Value} (hm:∀w,Mem E I H w→w.heap[m]? = some S.mp) (h1:Res.any r (S.it m)∈H) (hO:S.Ok enc kvs) (hA:S.At enc p) (hx:ev L x=some (.pointer (some ⟨r,0,none⟩))):OV P n E I L H ⟨some d,.entry x,ty,pos,af,none⟩ (.tuple #[enc p.1,p.2]):=fun a w st mm=>by
 obtain⟨e,seen0,hs,he,hk,hv⟩:=hA
 have hr:w.heap[r]? = some (.mapIter (some m) S.clock (seen0.push e.born) S.clock):=by
  have:=mm.holds _ h1;rw[←hs];exact this
 have hb:w.heap[m]? = some (.map S.es S.clock):=hm w mm
 simp only[execOp,st.ev hx,Sem.run_bind,run_entry_at w r m S.clock seen0 S.es S.clock e hr hb he hO.nd,Result.andThen_ok,Sem.run_pure,hk,hv]
theorem b5w (h:∀I',ILe I I'→I' m=some S.mp→SX n E I' L H K):SX n E I L (.any m S.mp::H) K:=by
 intro a w s mm;have hh:w.heap[m]? = some S.mp:=mm.holds _ (List.mem_cons_self ..);exact h _ (IMap.pub_le _ (mm.priv _ (List.mem_cons_self ..) m rfl).1) (IMap.pub_same _ _ _) a w s (mm.pub (g:=m) rfl hh)
theorem a8t (h:I m=some S.mp):∀w,Mem E I H w→w.heap[m]? = some S.mp:=fun w mm=>mm.con m _ h
theorem b7j {p:κ×Value} (h1:Res.any r (S.it m)∈H) (h2:Res.any m S.mp∈H) (hO:S.Ok enc kvs) (hA:S.At enc p) (hx:ev L x=some (.pointer (some ⟨r,0,none⟩))):OV P n E I L H ⟨some d,.entry x,ty,pos,af,none⟩ (.tuple #[enc p.1,p.2]):=fun a w st mm=>by
 obtain⟨e,seen0,hs,he,hk,hv⟩:=hA
 have hr:w.heap[r]? = some (.mapIter (some m) S.clock (seen0.push e.born) S.clock):=by
  have:=mm.holds _ h1;rw[←hs];exact this
 have hb:w.heap[m]? = some (.map S.es S.clock):=mm.holds _ h2
 simp only[execOp,st.ev hx,Sem.run_bind,run_entry_at w r m S.clock seen0 S.es S.clock e hr hb he hO.nd,Result.andThen_ok,Sem.run_pure,hk,hv]
def b8l {κ:Type} [DecidableEq κ]:List (κ×Value)→κ→List (κ×Value)
 | [],_=>[]
 |(k',v)::r,k=>if k'=k then r else (k',v)::b8l r k
theorem c2Q {kvs:List (κ×Value)} {k:κ}:∀{i},a2z kvs k i=none→b8l kvs k=kvs:=by
 induction kvs with
 |nil=>intro i _;rfl
 |cons p r ih=>
  obtain⟨k',u⟩:=p;intro i h
  simp only[a2z]at h
  split at h
  ·cases h
  ·rename_i hne;simp only[b8l,if_neg hne,ih h]
theorem c2R {kvs:List (κ×Value)} {k:κ}:∀{i j u},a2z kvs k i=some (j,u)→i≤j∧j-i<kvs.length∧b8l kvs k=kvs.eraseIdx (j-i):=by
 induction kvs with
 |nil=>intro i j u h;cases h
 |cons p r ih=>
  obtain⟨k',u'⟩:=p;intro i j u h
  simp only[a2z]at h
  split at h
  ·rename_i he
   simp only[Option.some.injEq,Prod.mk.injEq]at h
   obtain⟨rfl,rfl⟩:=h;exact⟨Nat.le_refl _,by simp,by simp[b8l,he]⟩
  ·rename_i hne
   obtain⟨h1,h2,h3⟩:=ih h;refine⟨oM,by simp only[List.length_cons];omega,?_⟩;rw[show j-i=(j-(i+1))+1 from oM,List.eraseIdx_cons_succ,b8l,if_neg hne,h3]
theorem b0G:∀{kvs:List (κ×Value)} {k:κ},(kvs.map Prod.fst).Nodup→b8l kvs k=kvs.filter (fun p=>!decide (p.1=k))
 | [],k,_=>rfl
 |(k',v)::r,k,h=>by
  rw[List.map_cons,List.nodup_cons]at h
  simp only[b8l,List.filter_cons]
  split
  ·rename_i he
   subst he
   simp only[decide_true,Bool.not_true,Bool.false_eq_true,if_false]
   refine (List.filter_eq_self.2 fun p hp=>?_).symm
   have:p.1≠k':=fun e=>by
    have h9:p.1∈r.map Prod.fst:=List.mem_map_of_mem (f:=Prod.fst) hp;rw[e]at h9
    exact h.1 h9
   simpa using this
  ·rename_i hne
   simp only[hne,decide_false,Bool.not_false,if_true]
   rw[b0G h.2]
theorem b8A {mt kt et:Nat} {ats:List TypeId} (hK:KeyOK P kt enc) (ht:P.underlying mt=some (.map kt et)) (key:κ) (hx:ev L x=some (.map (some m))) (hy:ev L y=some (enc key))
  (k:SX n E I L (.mp m (a1A enc (b8l kvs key))::H) K):SX n E I L (.mp m (a1A enc kvs)::H) (one P ops Q ⟨none,.call { callee:=.builtin .delete,args:=#[x,y],argTypes:=(mt::ats).toArray },ty,pos,af,none⟩ K):=by
 intro a w st mm;unfold one;rw[if_pos (by rfl)];obtain⟨entries,clock,h1,h2,h3,h4⟩:=mm.mp (List.mem_cons_self ..);have hlt:m<w.heap.size:=(Array.getElem?_eq_some_iff.1 h1).1;have hf:=hK.find w key entries.toList kvs h2;have hset:∀o:Obj,(setObj m o).run P w = .ok () { w with heap:=w.heap.setIfInBounds m o }:=fun o=>by simp[setObj,Sem.run,h1]
 have hnew:∀o:Obj,({ w with heap:=w.heap.setIfInBounds m o }:World).heap[m]? = some o:=fun o=>by simp[hlt]
 have hstep:∀(o:Obj),c5m o (a1A enc (b8l kvs key))→Mem E I (.mp m (a1A enc (b8l kvs key))::H) { w with heap:=w.heap.setIfInBounds m o }:=fun o ho=>
  mm.step rfl ⟨rfl,Nat.le_refl _⟩ rfl (by simp) (fun k hk hne=>by
   have:m≠k:=fun e=>hne (by rw[←e];rfl)
   simp[Array.getElem?_setIfInBounds_ne this]) ⟨o,hnew o,ho⟩ (fun g hg=>.inl hg)
 have key0:∃o,c5m o (a1A enc (b8l kvs key))∧(execOp a.eval ⟨none,.call { callee:=.builtin .delete,args:=#[x,y],argTypes:=(mt::ats).toArray },ty,pos,af,none⟩).run P w = .ok (.value (.tuple #[])) { w with heap:=w.heap.setIfInBounds m o }:=by
  cases hm:a2z kvs key 0 with
  |none=>
   refine⟨.map entries clock,⟨_,_,rfl,by rw[c2Q hm];exact h2,h3,h4⟩,?_⟩
   simp[execOp,resolve,invoke,builtin,st.ev hx,st.ev hy,Builtin.delete_,run_underlying ht,a5n h1,hK.check,hf,hm,hset]
  |some q=>
   obtain⟨j,u⟩:=q;obtain⟨_,hj,hp⟩:=c2R hm
   simp only[Nat.sub_zero]at hj hp
   have hsub:List.Sublist (entries.eraseIdxIfInBounds j).toList entries.toList:=by
    rw[Array.toList_eraseIdxIfInBounds];exact List.eraseIdx_sublist _ _
   refine⟨.map (entries.eraseIdxIfInBounds j) clock,⟨_,_,rfl,?_,(hsub.map _).nodup h3,fun e he=>h4 e (hsub.subset he)⟩,?_⟩
   ·have hem:∀{α β:Type} (l:List α) (f:α→β) (i:Nat),(l.eraseIdx i).map f=(l.map f).eraseIdx i:=fun l f i=>by
     rw[List.eraseIdx_eq_take_drop_succ,List.eraseIdx_eq_take_drop_succ];simp
    rw[Array.toList_eraseIdxIfInBounds,hem,h2,hp,a1A,a1A,hem]
   ·simp[execOp,resolve,invoke,builtin,st.ev hx,st.ev hy,Builtin.delete_,run_underlying ht,a5n h1,hK.check,hf,hm,hset]
 obtain⟨o,ho,hr⟩:=key0;rw[a9L hr];exact k _ _ st (hstep o ho)
end
theorem ItS.Step.some {κ:Type} {enc:κ→Value} {kvs todo t':List (κ×Value)} {S S':ItS} {q:Option (κ×Value)} (h:ItS.Step enc kvs todo S q S' t') (hq:q.isSome=true) :
  ∃p a b,todo=a++p::b∧S'.Ok enc kvs∧S'.Todo enc (a++b)∧S'.At enc p∧q = .some p∧t'=a++b:=by
 cases h with
 |over h=>cases hq
 |come p a b S1 h h1 h2 h3=>exact⟨p,a,b,h,h1,h2,h3,rfl,rfl⟩
theorem ItS.Step.none {κ:Type} {enc:κ→Value} {kvs todo t':List (κ×Value)} {S S':ItS} {q:Option (κ×Value)} (h:ItS.Step enc kvs todo S q S' t') (hq:q.isSome=false):todo=[]∧q = .none∧S'=S:=by
 cases h with
 |over h=>exact⟨h,rfl,rfl⟩
 |come p a b S1 h h1 h2 h3=>cases hq
theorem a5k {α:Type} {done todo a b kvs:List α} {p:α} (hP:(done++todo).Perm kvs) (h:todo=a++p::b):(done++[p]++(a++b)).Perm kvs:=by
 subst h;refine List.Perm.trans ?_ hP;rw[List.append_assoc];refine List.Perm.append_left _ ?_;exact (List.perm_middle (a:=p) (l₁:=a) (l₂:=b)).symm
theorem c7f {α:Type} {done todo a b kvs:List α} {p:α} (hP:(done++todo).Perm kvs) (h:todo=a++p::b):p∈kvs:=hP.mem_iff.1 (by rw[h];simp)
end Go.Sx
set_option linter.all false
namespace Go.Sx
open Go
abbrev NU:=ByteArray×ByteArray
def a3h (R:List NU):List (ByteArray×Value):=R.map fun p=>(p.1,Value.string p.2)
theorem b4u (R:List NU):(a3h R).map Prod.fst=R.map Prod.fst:=by simp[a3h]
theorem b8r:∀{kvs:List (ByteArray×Value)} {k:ByteArray} {v:Value},k∉kvs.map Prod.fst→a4I kvs k v=kvs++[(k,v)]
 | [],_,_,_=>rfl
 |(k',u)::r,k,v,h=>by
  simp only[List.map_cons,List.mem_cons,not_or]at h
  have hne:¬k'=k:=fun e=>h.1 (e▸rfl)
  simp only[a4I,if_neg hne,b8r h.2,List.cons_append]
theorem c1X {R:List NU} {k u:ByteArray} (h:k∉R.map Prod.fst):a4I (a3h R) k (.string u)=a3h (R++[(k,u)]):=by
 rw[b8r (by rw[b4u];exact h)];simp[a3h]
theorem b4t {R:List NU} {k:ByteArray} (h:(R.map Prod.fst).Nodup):b8l (a3h R) k=a3h (R.filter fun p=>!decide (p.1=k)):=by
 rw[b0G (by rw[b4u];exact h)];unfold a3h;rw[List.filter_map];rfl
theorem b8p:∀{kvs:List (ByteArray×Value)} {k:ByteArray} {v:Value},(kvs.map Prod.fst).Nodup→(k,v)∈kvs→a4h kvs k=some v
 |(k',u)::r,k,v,hn,h=>by
  rw[List.map_cons,List.nodup_cons]at hn
  simp only[a4h]
  rcases List.mem_cons.1 h with h|h
  ·cases h;simp
  ·have:k'≠k:=fun e=>by
    have h9:k∈r.map Prod.fst:=List.mem_map_of_mem (f:=Prod.fst) h;rw[←e]at h9
    exact hn.1 h9
   rw[if_neg this];exact b8p hn.2 h
theorem b8o:∀{kvs:List (ByteArray×Value)} {k:ByteArray} {v:Value},a4h kvs k=some v→k∈kvs.map Prod.fst
 |(k',u)::r,k,v,h=>by
  simp only[a4h]at h
  split at h
  ·rename_i e;simp[e]
  ·simp[b8o h]
theorem Ix.mem {kvs:List (ByteArray×Value)} {l:List Part} {k:ByteArray} {v:Value} (h:Ix kvs l) (hn:(kvs.map Prod.fst).Nodup) (hp:(k,v)∈kvs):∃(i:Nat) (hi:i<l.length),v=ci (i:Nat)∧a0e l k=some l[i]:=by
 have h1:=b8p hn hp;rw[h k]at h1
 cases hf:l.findIdx? (fun p=>decide (p.name=k)) with
 |none=>rw[hf]at h1;cases h1
 |some i=>
  rw[hf]at h1
  simp only[Option.map_some,Option.some.injEq]at h1
  rw[List.findIdx?_eq_some_iff_getElem]at hf
  obtain⟨hi,hq,hb⟩:=hf;refine⟨i,hi,h1.symm,?_⟩;rw[a0e,List.find?_eq_some_iff_getElem];exact⟨hq,i,hi,rfl,fun j hj=>by simpa using hb j hj⟩
theorem Ix.has {kvs:List (ByteArray×Value)} {l:List Part} {k:ByteArray} (h:Ix kvs l) (hs:(a0e l k).isSome=true):k∈kvs.map Prod.fst:=by
 have h1:=h k
 cases hf:l.findIdx? (fun p=>decide (p.name=k)) with
 |none=>
  exfalso
  rw[List.findIdx?_eq_none_iff]at hf
  obtain⟨p,hp⟩:=Option.isSome_iff_exists.1 hs;have h2:=List.mem_of_find?_eq_some hp;have h3:=List.find?_some hp;rw[hf p h2]at h3;cases h3
 |some i=>rw[hf]at h1;exact b8o h1
theorem b1l {l:List Part} {n:ByteArray} (h:upP l n≠a0M):(a0e l n).isSome=true:=by
 unfold upP at h
 cases hf:a0e l n with
 |none=>rw[hf]at h;exact absurd rfl h
 |some p=>rfl
def a4n (l:List Part) (ks:List ByteArray):List NU:=(ks.filter fun n=>!decide (upP l n=a0M)).map fun n=>(n,upP l n)
section
variable {l:List Part} {v:ByteArray} {R:List NU} {lst out more:List ByteArray} {kvs todo done:List (ByteArray×Value)}
theorem c6b {ks:List ByteArray} {n:ByteArray} (h:upP l n≠a0M):a4n l (ks++[n])=a4n l ks++[(n,upP l n)]:=by simp[a4n,h]
theorem d0z {ks:List ByteArray} {n:ByteArray} (h:upP l n=a0M):a4n l (ks++[n])=a4n l ks:=by simp[a4n,h]
theorem b2Z (ks:List ByteArray):(a4n l ks).map Prod.fst=ks.filter fun n=>!decide (upP l n=a0M):=by unfold a4n;rw[List.map_map];exact List.map_id _
theorem c5Z {ks:List ByteArray} {n u:ByteArray}:(n,u)∈a4n l ks↔n∈ks∧upP l n=u∧u≠a0M:=by
 unfold a4n;rw[List.mem_map]
 constructor
 ·rintro⟨m,hm,e⟩
  cases e
  have:=List.mem_filter.1 hm;exact⟨this.1,rfl,by simpa using this.2⟩
 ·rintro⟨h1,rfl,h2⟩;exact⟨n,List.mem_filter.2 ⟨h1,by simpa using h2⟩,rfl⟩
def b1X (l:List Part):Nat:=(l.filter fun p=>!decide (p.into=a0M)).length
theorem c5Y {ks:List ByteArray} (hn:ks.Nodup):(a4n l ks).length≤b1X l:=by
 unfold a4n b1X;rw[List.length_map,show (l.filter fun p=>!decide (p.into=a0M)).length=((l.filter fun p=>!decide (p.into=a0M)).map Part.name).length from (List.length_map _).symm];refine List.Nodup.length_le_of_subset (List.filter_sublist.nodup hn) fun n hm=>?_
 have h1:=(List.mem_filter.1 hm).2;have h2:upP l n≠a0M:=by simpa using h1
 obtain⟨p,hp⟩:=Option.isSome_iff_exists.1 (b1l h2);have hpn:p.name=n:=by simpa using List.find?_some hp
 refine List.mem_map.2 ⟨p,List.mem_filter.2 ⟨List.mem_of_find?_eq_some hp,?_⟩,hpn⟩;unfold upP at h2
 rw[hp]at h2
 simpa using h2
structure Bfs (l:List Part) (v:ByteArray) (R:List NU) (lst out:List ByteArray):Prop where
 kn:(R.map Prod.fst).Nodup
 rest:∀n u,(n,u)∈R↔(upP l n=u∧u≠a0M)∧n≠v∧n∉out
 ins:∀n∈out,a7c l v n
 lst':∀x∈lst,x=v∨x∈out
 proc:∀x,(x=v∨x∈out)→x∉lst→∀n,(n,x)∉R
 len:out.length+R.length≤b1X l
 ond:out.Nodup
theorem Bfs.start (hx:Ix kvs l) (hn:(kvs.map Prod.fst).Nodup) (hd:done.Perm kvs):Bfs l v ((a4n l (done.map Prod.fst)).filter fun p=>!decide (p.1=v)) [v] []:=by
 have hdn:(done.map Prod.fst).Nodup:=((hd.map _).nodup_iff).2 hn
 have hR:∀n u,(n,u)∈(a4n l (done.map Prod.fst)).filter (fun p=>!decide (p.1=v))↔(upP l n=u∧u≠a0M)∧n≠v:=fun n u=>by
  rw[List.mem_filter,c5Z]
  constructor
  ·rintro⟨⟨_,h2⟩,h3⟩;exact⟨h2,by simpa using h3⟩
  ·rintro⟨⟨rfl,h2⟩,h3⟩;refine⟨⟨?_,rfl,h2⟩,by simpa using h3⟩;exact (hd.map Prod.fst).mem_iff.2 (hx.has (b1l h2))
 refine⟨?_,fun n u=>by rw[hR];simp,fun n h=>(by cases h),fun x h=>.inl (List.mem_singleton.1 h),fun x h hx=>?_,?_,?_⟩
 ·have h1:((a4n l (done.map Prod.fst)).map Prod.fst).Nodup:=by rw[b2Z];exact List.filter_sublist.nodup hdn
  exact (List.filter_sublist.map _).nodup h1
 ·rcases h with h|h
  ·exact absurd (List.mem_singleton.2 h) hx
  ·cases h
 ·have:=c5Y (l:=l) hdn;have h2:=List.length_filter_le (fun p:NU=>!decide (p.1=v)) (a4n l (done.map Prod.fst))
  simp only[List.length_nil];omega
 ·exact List.nodup_nil
def a2x (lst:List ByteArray) (done:List NU):List ByteArray:=(done.filter fun p=>decide (p.2∈lst)).map Prod.fst
theorem b4P {done:List NU} {p:NU} (h:p.2∈lst):a2x lst (done++[p])=a2x lst done++[p.1]:=by simp[a2x,h]
theorem b8u {done:List NU} {p:NU} (h:¬p.2∈lst):a2x lst (done++[p])=a2x lst done:=by simp[a2x,h]
theorem c2X (done:List NU):(a2x lst done).length≤done.length:=by unfold a2x;rw[List.length_map];exact List.length_filter_le _ _
theorem a7F {done:List NU} (hd:done.Perm R) {n:ByteArray}:n∈a2x lst done↔∃u,(n,u)∈R∧u∈lst:=by
 unfold a2x;rw[List.mem_map]
 constructor
 ·rintro⟨⟨m,u⟩,hp,rfl⟩;have:=List.mem_filter.1 hp;exact⟨u,hd.mem_iff.1 this.1,by simpa using this.2⟩
 ·rintro⟨u,h1,h2⟩;exact⟨(n,u),List.mem_filter.2 ⟨hd.mem_iff.2 h1,by simpa using h2⟩,rfl⟩
def a7S (R:List NU) (more:List ByteArray):List NU:=R.filter fun p=>!decide (p.1∈more)
theorem c3U:a7S R []=R:=by unfold a7S;rw[List.filter_eq_self];intro p _;simp
theorem b8O (h:(R.map Prod.fst).Nodup) (more:List ByteArray):((a7S R more).map Prod.fst).Nodup:=(List.filter_sublist.map _).nodup h
theorem c0F {i:Nat} (hi:i<more.length) (h:(R.map Prod.fst).Nodup):b8l (a3h (a7S R (more.take i))) more[i]=a3h (a7S R (more.take (i+1))):=by
 rw[b4t (b8O h _)];unfold a7S;rw[List.filter_filter]
 congr 2
 funext p
 rw[←a0c hi]
 simp only[List.mem_append,List.mem_singleton]
 by_cases h1:p.1=more[i]<;>by_cases h2:p.1∈more.take i<;>simp[h1,h2]
theorem d7B {n u u':ByteArray} (h:(R.map Prod.fst).Nodup) (h1:(n,u)∈R) (h2:(n,u')∈R):u=u':=by
 induction R with
 |nil=>cases h1
 |cons p R ih=>
  rw[List.map_cons,List.nodup_cons]at h
  rcases List.mem_cons.1 h1 with h1|h1
  ·rcases List.mem_cons.1 h2 with h2|h2
   ·rw[←h1]at h2;exact (Prod.mk.inj h2).2.symm
   ·exact absurd (List.mem_map_of_mem (f:=Prod.fst) h2) (by rw[←h1]at h;exact h.1)
  ·rcases List.mem_cons.1 h2 with h2|h2
   ·exact absurd (List.mem_map_of_mem (f:=Prod.fst) h1) (by rw[←h2]at h;exact h.1)
   ·exact ih h.2 h1 h2
theorem b8v {done:List NU} (hk:(R.map Prod.fst).Nodup) (hd:done.Perm R):(a2x lst done).length+(a7S R (a2x lst done)).length=R.length:=by
 have h1:(a2x lst done).length=R.countP (fun p=>decide (p.2∈lst)):=by
  unfold a2x;rw[List.length_map,←List.countP_eq_length_filter];exact hd.countP_eq _
 have h2:a7S R (a2x lst done)=R.filter (fun p=>decide ¬(decide (p.2∈lst)=true)):=by
  unfold a7S;refine List.filter_congr fun p hp=>?_
  rw[Bool.eq_iff_iff]
  simp only[Bool.not_eq_true',decide_eq_false_iff_not,decide_eq_true_eq]
  refine not_congr ?_;rw[a7F hd];exact⟨fun ⟨u,h3,h4⟩=>by rw[d7B hk hp h3];exact h4,fun h=>⟨p.2,hp,h⟩⟩
 rw[h1,h2,←List.countP_eq_length_filter];exact (List.length_eq_countP_add_countP (fun p:NU=>decide (p.2∈lst))).symm
theorem Bfs.step {done:List NU} (hv:(a0e l v).isSome=true) (h:Bfs l v R lst out) (hd:done.Perm R):Bfs l v (a7S R (a2x lst done)) (a2x lst done) (out++a2x lst done):=by
 have hsub:∀{p:NU},p∈a7S R (a2x lst done)↔p∈R∧p.1∉a2x lst done:=fun {p}=>by unfold a7S;rw[List.mem_filter];simp
 refine⟨b8O h.kn _,fun n u=>?_,fun n hn=>?_,fun x hx=>.inr (List.mem_append.2 (.inr hx)),fun x hx hnx n hm=>?_,?_,?_⟩
 ·rw[hsub,h.rest,List.mem_append,not_or]
  simp only[and_assoc]
 ·rcases List.mem_append.1 hn with hn|hn
  ·exact h.ins n hn
  ·obtain⟨u,h1,h2⟩:=(a7F hd).1 hn;obtain⟨⟨h3,h4⟩,h5,h6⟩:=(h.rest n u).1 h1;have hup:upP l n≠a0M:=by rw[h3];exact h4
   refine⟨⟨hv,b1l hup,h5⟩,?_⟩
   rcases h.lst' u h2 with rfl|hu
   ·exact⟨1,by unfold a3r;rw[h3];simp[h4]⟩
   ·obtain⟨_,k,hk⟩:=h.ins u hu;exact⟨k+1,by unfold a3r;rw[h3];simp[h4,hk]⟩
 ·obtain⟨hm1,hm2⟩:=hsub.1 hm
  have hx':x=v∨x∈out:=by
   rcases hx with hx|hx
   ·exact .inl hx
   ·rcases List.mem_append.1 hx with hx|hx
    ·exact .inr hx
    ·exact absurd hx hnx
  by_cases hl:x∈lst
  ·exact hm2 ((a7F hd).2 ⟨x,hm1,hl⟩)
  ·exact h.proc x hx' hl n hm1
 ·have h1:=h.len;have h2:=b8v (lst:=lst) h.kn hd;rw[List.length_append];omega
 ·rw[List.nodup_append];refine⟨h.ond,?_,fun a ha b hb e=>?_⟩
  ·unfold a2x;exact (List.filter_sublist.map _).nodup (((hd.map Prod.fst).nodup_iff).2 h.kn)
  ·subst e;obtain⟨u,h1,_⟩:=(a7F hd).1 hb;exact ((h.rest a u).1 h1).2.2 ha
theorem b4U:∀(m out:List ByteArray),out.Nodup→m.length≤out.length→(∀x,x∈out→x∈m)→m.Nodup
 | [],_,_,_,_=>List.nodup_nil
 |y::m,out,hn,hl,hs=>by
  have hy:y∉m:=fun h=>by
   have:=List.Nodup.length_le_of_subset (l₂:=m) hn fun x hx=>by
    rcases List.mem_cons.1 (hs x hx) with rfl|h2
    ·exact h
    ·exact h2
   simp at hl;omega
  refine List.nodup_cons.2 ⟨hy,b4U m (out.filter fun x=>!decide (x=y)) (List.filter_sublist.nodup hn) ?_ fun x hx=>?_⟩
  ·have h1:out.countP (fun x=>decide (x=y))≤1:=by
    have h2:=List.Nodup.length_le_of_subset (l₁:=out.filter fun x=>decide (x=y)) (l₂:=[y]) (List.filter_sublist.nodup hn) fun x hx=>by
     have:=(List.mem_filter.1 hx).2;rw[decide_eq_true_eq]at this;simp[this]
    rw[List.countP_eq_length_filter];simpa using h2
   have h3:=List.length_eq_countP_add_countP (fun x=>decide (x=y)) (l:=out)
   have h4:(out.filter fun x=>!decide (x=y)).length=out.countP (fun x=>decide ¬(decide (x=y)=true)):=by
    rw[←List.countP_eq_length_filter];refine List.countP_congr fun x _=>?_
    simp
   rw[h4];simp at hl;omega
  ·obtain⟨h1,h2⟩:=List.mem_filter.1 hx
   rcases List.mem_cons.1 (hs x h1) with rfl|h3
   ·simp at h2
   ·exact h3
theorem Bfs.over (h:Bfs l v R [] out) {n:ByteArray}:n∈out↔a7c l v n:=by
 refine⟨h.ins n,fun ⟨⟨_,hf,hnv⟩,k,hk⟩=>?_⟩
 have key:∀(k:Nat) (n:ByteArray),n≠v→a3r l v k n=true→n∈out:=by
  intro k
  induction k with
  |zero=>intro n _ h;cases h
  |succ k ih=>
   intro n hn hr
   simp only[a3r,Bool.and_eq_true,Bool.not_eq_true',decide_eq_false_iff_not,Bool.or_eq_true,decide_eq_true_eq]at hr
   obtain⟨h1,h2⟩:=hr;refine Classical.byContradiction fun hc=>?_
   have hR:=(h.rest n (upP l n)).2 ⟨⟨rfl,h1⟩,hn,hc⟩
   by_cases hv:upP l n=v
   ·exact h.proc _ (.inl hv) (by simp) n hR
   ·exact h.proc _ (.inr (ih _ hv (h2.resolve_left hv))) (by simp) n hR
 exact key k n hnv hk
theorem d1r (h:a0e l v=none) (n:ByteArray):¬a7c l v n:=fun ⟨⟨h1,_⟩,_⟩=>by rw[h]at h1;cases h1
end
end Go.Sx
set_option linter.all false
namespace Go.Sx
open Go
section
variable {c:List Kind} {l own:List Rep} {R:Nat→Nat} {p q y z:ByteArray} {day:Int} {α β:Type} [DecidableEq α] [DecidableEq β] {lt:α→α→Bool} {lt':β→β→Bool} {f:List Part→α} {g:List Part→β} {s:List Part}
theorem b5Q:l.any (fun r=>!a0g r)=false↔∀r∈l,a0g r=true:=by
 rw[List.any_eq_false];exact⟨fun h r hr=>by simpa using h r hr,fun h r hr=>by simp[h r hr]⟩
theorem a4c (h:∀r∈l,a0g r=true):∀r∈a0D l R p,a0g r=true:=fun r hr=>h r (a6Z hr)
end
end Go.Sx
set_option linter.all false
namespace Go.Sx
open Go
section
variable {l:List Rep} {R:Nat→Nat} {p:ByteArray} {k:Nat}
theorem c9F (hR:Rts l R) (h:∀i,i<l.length→R i=R 0) (hk:k<l.length) (hn:nm l[k] p):a0D l R p=l:=by
 have e:a5N R l.length (R k)=List.range l.length:=List.filter_eq_self.2 fun i hi=>decide_eq_true (by rw[h i (List.mem_range.1 hi),h k hk])
 unfold a0D;rw[c3i hR hk hn,e,b0V]
end
def c6V {α:Type} [DecidableEq α] (l:List α):List α:=l.foldl (fun a x=>if x∈a then a else a++[x]) []
section
variable {α:Type} [DecidableEq α] {lt:α→α→Bool}
theorem b6E:∀(l a:List α),a.Nodup→(l.foldl (fun a x=>if x∈a then a else a++[x]) a).Nodup∧∀z,z∈l.foldl (fun a x=>if x∈a then a else a++[x]) a↔z∈a∨z∈l
 | [],a,h=>⟨h,fun z=>by simp⟩
 |x::l,a,h=>by
  rw[List.foldl_cons]
  by_cases hx:x∈a
  ·rw[if_pos hx];obtain⟨h1,h2⟩:=b6E l a h;refine⟨h1,fun z=>?_⟩;rw[h2,List.mem_cons]
   constructor
   ·rintro (h|h)
    ·exact .inl h
    ·exact .inr (.inr h)
   ·rintro (h|rfl|h)
    ·exact .inl h
    ·exact .inl hx
    ·exact .inr h
  ·rw[if_neg hx]
   have hn:(a++[x]).Nodup:=by
    rw[List.nodup_append];refine⟨h,by simp,?_⟩;intro y hy z hz e;rw[List.mem_singleton.1 hz]at e
    subst e;exact hx hy
   obtain⟨h1,h2⟩:=b6E l (a++[x]) hn;refine⟨h1,fun z=>?_⟩;rw[h2,List.mem_append,List.mem_singleton,List.mem_cons,or_assoc]
theorem b8E (l:List α):(c6V l).Nodup∧∀z,z∈c6V l↔z∈l:=by
 obtain⟨h1,h2⟩:=b6E l [] List.nodup_nil;exact⟨h1,fun z=>by unfold c6V;rw[h2];simp⟩
end
end Go.Sx
set_option linter.all false
namespace Go.Sx
open Go
def b8F (st:List Part):ByteArray→Nat→ByteArray
 |n,0=>n
 |n,j+1=>b8F st (upP st n) j
section
variable {st:List Part} {v n:ByteArray} {k i j:Nat}
theorem c3x:∀(j:Nat) (n:ByteArray),upP st (b8F st n j)=b8F st n (j+1)
 |0,n=>rfl
 |j+1,n=>c3x j (upP st n)
theorem c3w:∀(t a b:Nat),b8F st n a=b8F st n b→b8F st n (a+t)=b8F st n (b+t)
 |0,a,b,h=>h
 |t+1,a,b,h=>by
  rw[←Nat.add_assoc,←Nat.add_assoc,←c3x,←c3x,c3w t a b h]
theorem b5k:∀(k:Nat) (n:ByteArray),a3r st v k n=true↔∃i,i<k∧(∀j,j≤i→upP st (b8F st n j)≠a0M)∧upP st (b8F st n i)=v
 |0,n=>by simp[a3r]
 |k+1,n=>by
  simp only[a3r,Bool.and_eq_true,Bool.not_eq_true',decide_eq_false_iff_not,Bool.or_eq_true,decide_eq_true_eq,b5k k]
  constructor
  ·rintro⟨h0,h|⟨i,hi,h1,h2⟩⟩
   ·exact⟨0,oM,fun j hj=>by (obtain rfl:j=0:=oM);exact h0,h⟩
   ·refine⟨i+1,oM,fun j hj=>?_,h2⟩
    cases j with
    |zero=>exact h0
    |succ j=>exact h1 j oM
  ·rintro⟨i,hi,h1,h2⟩;refine⟨h1 0 oM,?_⟩
   cases i with
   |zero=>exact .inl h2
   |succ i=>exact .inr ⟨i,oM,fun j hj=>h1 (j+1) oM,h2⟩
theorem c6G {p:Nat→Prop}:∀(i:Nat),p i→∃m,m≤i∧p m∧∀j,j<m→¬p j:=by
 intro i
 induction i using Nat.strongRecOn with
 |ind i ih=>
  intro h
  by_cases hq:∃j,j<i∧p j
  ·obtain⟨j,hj,hp⟩:=hq;obtain⟨m,h1,h2,h3⟩:=ih j hj hp;exact⟨m,oM,h2,h3⟩
  ·exact⟨i,Nat.le_refl _,h,fun j hj hp=>hq ⟨j,hj,hp⟩⟩
theorem b6R (h:a3r st v k n=true):a3r st v st.length n=true:=by
 rw[b5k]at h ⊢
 obtain⟨i,_,h1,h2⟩:=h;obtain⟨m,hm,hpm,hmin⟩:=c6G (p:=fun i=>upP st (b8F st n i)=v) i h2;refine⟨m,?_,fun j hj=>h1 j oM,hpm⟩
 have hinj:∀a b,a<b→b≤m→b8F st n a≠b8F st n b:=fun a b hab hb e=>by
  have e2:=c3w (st:=st) (n:=n) (m-b) a b e;rw[show b+(m-b)=m from by omega]at e2
  exact hmin (a+(m-b)) oM (by show upP st (b8F st n (a+(m-b)))=v;rw[e2];exact hpm)
 have hnd:((List.range (m+1)).map (b8F st n)).Nodup:=by
  rw[List.nodup_iff_pairwise_ne,List.pairwise_map];refine List.Pairwise.imp_of_mem (fun {a b} ha hb hab=>?_) List.pairwise_lt_range;exact hinj a b hab (by have:=List.mem_range.1 hb;omega)
 have hlen:=List.Nodup.length_le_of_subset (l₂:=st.map Part.name) hnd fun x hx=>by
  obtain⟨j,hj,rfl⟩:=List.mem_map.1 hx;have hs:=b1l (h1 j (by have:=List.mem_range.1 hj;omega));obtain⟨p,hp⟩:=Option.isSome_iff_exists.1 hs;have h8:=List.mem_of_find?_eq_some hp;have h9:=List.find?_some hp;exact List.mem_map.2 ⟨p,h8,by simpa using h9⟩
 simp at hlen;omega
def d7u (st:List Part) (v n:ByteArray):Bool:=((a0e st v).isSome&&((a0e st n).isSome && !decide (n=v)))&&a3r st v st.length n
theorem c6n:d7u st v n=true↔a7c st v n:=by
 simp only[d7u,a7c,Bool.and_eq_true,Bool.not_eq_true',decide_eq_false_iff_not]
 constructor
 ·rintro⟨⟨h1,h2,h3⟩,h4⟩;exact⟨⟨h1,h2,h3⟩,_,h4⟩
 ·rintro⟨⟨h1,h2,h3⟩,k,h4⟩;exact⟨⟨h1,h2,h3⟩,b6R h4⟩
def d0P (st:List Part) (v:ByteArray):List ByteArray:=c6V ((st.map Part.name).filter (d7u st v))
theorem d0Q:(d0P st v).Nodup:=(b8E _).1
theorem b3i:n∈d0P st v↔a7c st v n:=by
 unfold d0P;rw[(b8E _).2,List.mem_filter,c6n]
 constructor
 ·exact fun h=>h.2
 ·intro h;refine⟨?_,h⟩;obtain⟨p,hp⟩:=Option.isSome_iff_exists.1 h.1.2.1;have h8:=List.mem_of_find?_eq_some hp;have h9:=List.find?_some hp;exact List.mem_map.2 ⟨p,h8,by simpa using h9⟩
end
end Go.Sx
set_option linter.all false
namespace Go.Sx
open Go
def d3f (P:Program):Nat→TypeId→Value→Bool
 |0,_,_=>false
 |d+1,t,x=>match P.underlying t with
  |some .bool|some (.int _)|some .string=>true
  |some (.struct fs)=>match x with
   |.agg xs=>fs.toList.all fun f=>match b5c P f.type xs.toList f.offset with|some v=>d3f P d f.type v|none=>false
   |_=>false
  |_=>false
theorem b7B {P:Program} {b:Bool}:∀(d:Nat) (t:TypeId) (v:Value),d3f P d t v=true→∀(n:Nat),d≤n→∀w:World,(Instr.checkKey b n t v).run P w = .ok () w
 |0,_,_,h,_,_,_=>by simp[d3f]at h
 |d+1,t,v,h,n,hn,w=>by
  obtain⟨n,rfl⟩:∃q,n=q+1:=⟨n-1,oM⟩;rw[d3f]at h
  rw[Instr.checkKey]
  split at h
  ·rename_i hu;simp[run_underlying hu]
  ·rename_i hu;simp[run_underlying hu]
  ·rename_i hu;simp[run_underlying hu]
  ·rename_i fs hu
   split at h
   ·rename_i xs
    simp only[Sem.run_bind,run_underlying hu,Result.andThen_ok]
    rw[←Array.forIn_toList]
    have key:∀l:List Field,(∀f∈l,(match b5c P f.type xs.toList f.offset with|some v=>d3f P d f.type v|none=>false)=true)→∀w:World,
      (forIn l PUnit.unit fun f (_:PUnit)=>do
       if f.name ≠ "_" then do
        let __do_lift ←part f.type xs f.offset
        Instr.checkKey b n f.type __do_lift
        pure PUnit.unit
        pure (ForInStep.yield PUnit.unit)
       else do
        pure PUnit.unit
        pure (ForInStep.yield PUnit.unit):Sem PUnit).run P w = .ok () w:=by
     intro l
     induction l with
     |nil=>intro _ w;simp
     |cons f l ih=>
      intro hl w;have h1:=hl f (by simp)
      split at h1
      ·rename_i v hv
       have e1:=a6c hv w;have e2:=b7B (b:=b) d f.type v h1 n oM w;have e3:=ih (fun g hg=>hl g (by simp[hg])) w;rw[List.forIn_cons]
       by_cases hf : f.name ≠ "_"
       ·simp only[if_pos hf,Sem.run_bind,e1,Result.andThen_ok,e2,Sem.run_pure]
        exact e3
       ·simp only[if_neg hf,Sem.run_bind,Result.andThen_ok,Sem.run_pure]
        exact e3
      ·cases h1
    have:=key fs.toList (by rw[List.all_eq_true]at h;exact h) w;rw[this]
    simp
   ·cases h
  ·cases h
def b1i (P:Program) (kt:TypeId):Bool:=match P.underlying kt with
 |some (.struct _)=>true
 |_=>false
theorem a8y {κ:Type} [DecidableEq κ] {P:Program} {kt:TypeId} {cells:κ→List Value} (h:b1i P kt=true) (he:∀p q,eqV P 9 kt (.agg (cells p).toArray) (.agg (cells q).toArray)=some (decide (p=q)))
  (hc:∀p,d3f P 9 kt (.agg (cells p).toArray)=true) (hb:∀p,(cells p).all (fun v=>Instr.sameBits 9999 v v)=true):KeyOK P kt (fun p=>.agg (cells p).toArray) where
 find:=by
  obtain⟨fs,h1⟩:∃fs,P.underlying kt=some (.struct fs):=by
   unfold b1i at h
   split at h
   ·rename_i fs hfs;exact⟨fs,hfs⟩
   ·cases h
  intro w k es kvs hes
  have key:∀(es:List MapEntry) (kvs:List (κ×Value)) (i:Nat),es.map (fun e=>(e.key,e.val))=a1A (fun p=>.agg (cells p).toArray) kvs→(Instr.findAsking kt (.agg (cells k).toArray) es i).run P w = .ok (a2z kvs k i) w:=by
   intro es
   induction es with
   |nil=>intro kvs i he;cases kvs<;>simp_all [a1A,Instr.findAsking,a2z]
   |cons e es ih=>
    intro kvs i hes
    cases kvs with
    |nil=>simp[a1A]at hes
    |cons p kvs=>
     obtain⟨k',v⟩:=p
     simp only[List.map_cons,a1A,List.cons.injEq,Prod.mk.injEq]at hes
     obtain⟨⟨h1,h2⟩,h3⟩:=hes;have hr:=b2W (P:=P) 9 kt _ _ _ (he k k') 10000 oM w
     simp only[Instr.findAsking,h1,Sem.run_bind,Op.equal,Op.maxDepth,hr,Result.andThen_ok]
     by_cases hk:k'=k
     ·subst hk;simp[a2z,h2]
     ·have:¬k=k':=fun e=>hk e.symm
      simp only[this,decide_false,Bool.false_eq_true,if_false,a2z,if_neg hk]
      exact ih kvs (i+1) h3
  simp only[Instr.findKey,Sem.run_bind,run_underlying h1,Result.andThen_ok]
  cases es with
  |nil=>cases kvs<;>simp_all [a1A,Instr.findNow,a2z]
  |cons e es=>
   have:Instr.findNow (.struct fs) (.agg (cells k).toArray) (e::es) 0=none:=by simp[Instr.findNow,Instr.sameNow]
   simp only[this]
   exact key _ kvs 0 hes
 check:=fun w b k=>b7B 9 kt _ (hc k) 10000 oM w
 same:=by
  intro k
  show Instr.sameBits (9999+1) (.agg (cells k).toArray) (.agg (cells k).toArray)=true
  have:=hb k;rw[List.all_eq_true]at this
  simp only[Instr.sameBits,beq_self_eq_true,Bool.true_and,List.all_eq_true]
  intro p hp;obtain⟨i,hi,rfl⟩:=List.getElem_of_mem hp
  simp only[List.getElem_zip]
  exact this _ (List.getElem_mem _)
theorem b2O (n:Nat) (s:ByteArray):Instr.sameBits n (.string s) (.string s)=true:=by
 have hs:(s == s)=true:=by rw[b7v];simp
 cases n<;>simp[Instr.sameBits,hs]
theorem b2N (n:Nat) (k:IntKind) (i:Int):Instr.sameBits n (.int k i) (.int k i)=true:=by cases n<;>simp[Instr.sameBits]
end Go.Sx
set_option linter.all false
namespace Go.Sx
open Go
def b0H (P:Program) (t:TypeId) (name:String):Option FuncId:=
 match P.info? t,P.underlying t with
 |some i,some (.struct _)=>match i.methods.find? (·.name == name) with
  |some m=>match m.path.toList,m.func with
   | [],some (f,false)=>some f
   |_,_=>none
  |none=>none
 |_,_=>none
theorem b2g {P:Program} {t:TypeId} {name:String} {f:FuncId} (h:b0H P t name=some f):∃i fs m,P.info? t=some i∧P.underlying t=some (.struct fs)∧i.methods.find? (·.name == name)=some m∧m.path.toList=[]∧m.func=some (f,false):=by
 unfold b0H at h
 split at h
 ·rename_i i fs h1 h2
  split at h
  ·rename_i m h3
   split at h
   ·rename_i h4 h5
    cases h
    exact⟨i,fs,m,h1,h2,h3,h4,h5⟩
   ·cases h
  ·cases h
 ·cases h
theorem c0H {P:Program} {t:TypeId} {name:String} {f:FuncId} (h:b0H P t name=some f) (v:Value) (w:World) (k:Nat):(method (k+1) t v name).run P w = .ok (f,v) w:=by
 obtain⟨i,fs,m,h1,h2,h3,h4,h5⟩:=b2g h;have hti:(typeInfo t).run P w = .ok i w:=by simp[typeInfo,h1]
 simp only[method,Sem.run_bind,hti,Result.andThen_ok,h3,h4,follow,Sem.run_pure,h5,receiverAt,run_underlying h2,Place.get]
theorem b5p {P:Program} {t:TypeId} {name:String} {f:FuncId} (h:b0H P t name=some f) (v:Value) (w:World) (k:Nat):(nilAhead (k+1) t v name).run P w = .ok (some false) w:=by
 obtain⟨i,fs,m,h1,h2,h3,h4,h5⟩:=b2g h;have hti:(typeInfo t).run P w = .ok i w:=by simp[typeInfo,h1]
 simp only[nilAhead,Sem.run_bind,hti,Result.andThen_ok,h3,h4,followBlind,Sem.run_pure,h5,run_underlying h2]
section
variable {P:Program} {n:Sz} {E:Ent} {I:IMap} {L:LL} {H:List Res} {Q:Exit→Act→World→Prop} {ops:Array Oper} {K:Act→World→Prop}
variable {d ty tx tyy:Nat} {pos:String} {af:Array Edge} {x y:Operand}
theorem c0G {a:Act} {w:World} {as_:List Operand} {ats:Array TypeId} {t:TypeId} {name:String} {f:FuncId} {v:Value} {vs:List Value} (s:St n a L) (hm:b0H P t name=some f) (hx:ev L x=some (.iface t v)) (hv:evs L as_=some vs) (o:Oper)
  (ho:o.op = .call { callee:=.invoke x name,args:=as_.toArray,argTypes:=ats }):(execOp a.eval o).run P w=(callFunc f (v::vs).toArray).run P w:=by
 have ha:as_.toArray.map a.eval=vs.toArray:=by rw[←a6q s as_ vs hv];simp
 have hd:∃q,P.types.size+Made.depth=q+1:=⟨P.types.size+99,rfl⟩;obtain⟨q,hq⟩:=hd;have e1:(#[Value.iface t v]++vs.toArray)[0]? = some (Value.iface t v):=by simp
 have e2:(#[Value.iface t v]++vs.toArray).extract 1 (#[Value.iface t v]++vs.toArray).size=vs.toArray:=by simp[List.extract]
 simp only[execOp,ho,resolve,ha,s.ev hx,Sem.run_bind,Sem.run_pure,Result.andThen_ok,invoke,e1,e2,callMethod,run_program,hq,c0H hm]
 simp
theorem b8z {u:Value} {as_:List Operand} {ats:Array TypeId} {t:TypeId} {name:String} {f:FuncId} {v:Value} {vs:List Value} (hm:b0H P t name=some f) (hc:FnV P f (v::vs).toArray I u) (hx:ev L x=some (.iface t v)) (hv:evs L as_=some vs) (hd:Nat.blt d n.sz=true)
  (k:SX n E I ((d,u)::L) H K):SX n E I L H (one P ops Q ⟨some d,.call { callee:=.invoke x name,args:=as_.toArray,argTypes:=ats },ty,pos,af,none⟩ K):=
 b6x (Hc:=[]) hc.go (fun a w s=>c0G s hm hx hv _ rfl) hd fun v I' H' hI hp=>by obtain⟨rfl,rfl,rfl⟩:=hp;exact k
theorem b5F {t:TypeId} {name:String} {f:FuncId} {v:Value} {cs:Array Value} (hm:b0H P t name=some f) (hx:ev L x=some (.func (.method name) #[.iface t v] cs)):OV P n E I L H ⟨some d,.nilCheck x,ty,pos,af,none⟩ (.func (.method name) #[.iface t v] cs):=
 (fun a w s _=>by
  have hd:∃q,P.types.size+Made.depth=q+1:=⟨P.types.size+99,rfl⟩;obtain⟨q,hq⟩:=hd
  simp only[execOp,s.ev hx,Sem.run_bind,run_program,Result.andThen_ok,List.getElem?_toArray,List.getElem?_cons_zero,hq,b5p hm,bne_self_eq_false,Bool.false_eq_true,if_false,Sem.run_pure])
theorem d2Q {v:Value} {tt:Nat} (ht:b1i P tt=true) (hx:ev L x=some v):OV P n E I L H ⟨some d,.makeInterface tt x,ty,pos,af,none⟩ (.iface tt v):=
 (fun a w s _=>by
  unfold b1i at ht
  split at ht
  ·rename_i fs h1;simp[execOp,s.ev hx,Instr.makeInterface,run_underlying h1]
  ·cases ht)
theorem d2T {i:Int} (hx:ev L x=some (.int .i64 i)) (hb:I64 (-i)):OV P n E I L H ⟨some d,.unOp .neg tx x,ty,pos,af,none⟩ (.int .i64 (-i)):=
 (fun a w s _=>by
  have e:0-i = -i:=oM
  simp[execOp,s.ev hx,Op.unary,Op.intArith,e];exact IntWalk.i64_in _ ⟨hb.1,hb.2⟩)
theorem d8c {i j:Int} (hx:ev L x=some (.int .i64 i)) (hy:ev L y=some (.int .i64 j)) (hj:j≠0) (hb:I64 (i.tdiv j)):OV P n E I L H ⟨some d,.binOp .quo tx x y tyy,ty,pos,af,none⟩ (.int .i64 (i.tdiv j)):=
 (fun a w s _=>by
  simp only[execOp,s.ev hx,s.ev hy,eqGuard_at_int,binOp_quo,Op.intDiv,Sem.run_bind,if_neg hj]
  simp;exact IntWalk.i64_in _ ⟨hb.1,hb.2⟩)
theorem c4Q {q:Nat} (hq:q<18446744073709551616) (hx:ev L x=some (.int .u64 ((q:Nat):Int))):OV P n E I L H ⟨some d,.binOp .and tx x (.const (.int .u64 4294967295)) tyy,ty,pos,af,none⟩ (.int .u64 ((q % 4294967296:Nat):Int)):=
 (fun a w s _=>by
  have h:=bits_and_u64_nat q 4294967295 hq oM;have e:q &&& 4294967295=q % 4294967296:=Nat.and_two_pow_sub_one_eq_mod q 32;rw[e]at h
  have hy:a.eval (.const (.int .u64 4294967295)) = .int .u64 4294967295:=rfl;have h2:Op.intBits .and .u64 (q:Int) 4294967295=pure (.int .u64 ((q % 4294967296:Nat):Int)):=by rw[←h];rfl
  simp only[execOp,s.ev hx,hy,eqGuard_at_int,binOp_and,h2,Sem.run_bind]
  rfl)
theorem c4N {q:Nat} {kk:IntKind} (hx:ev L x=some (.int .u64 ((q:Nat):Int))):OV P n E I L H ⟨some d,.binOp .shr tx x (.const (.int kk 32)) tyy,ty,pos,af,none⟩ (.int .u64 ((q / 4294967296:Nat):Int)):=
 (fun a w s _=>by
  have h:=shift_shr_any .u64 kk (q:Int) 32 oM;have hy:a.eval (.const (.int kk 32)) = .int kk 32:=rfl
  have e:(q:Int) / 2 ^ min (32:Int).toNat IntKind.u64.bits=((q / 4294967296:Nat):Int):=by
   rw[show min (32:Int).toNat IntKind.u64.bits=32 from rfl]
   show (q:Int) / 4294967296=_
   omega
  rw[e]at h
  have hb:binOp .shr tx (.int .u64 (q:Int)) (.int kk 32)=pure (.int .u64 ((q / 4294967296:Nat):Int)):=h
  simp[execOp,s.ev hx,hy,eqGuard_shr,hb])
theorem b9f {q r:Nat} (hx:ev L x=some (.int .u64 ((q:Nat):Int))) (hy:ev L y=some (.int .u64 ((r:Nat):Int))) (hb:q+r<18446744073709551616):OV P n E I L H ⟨some d,.binOp .add tx x y tyy,ty,pos,af,none⟩ (.int .u64 ((q+r:Nat):Int)):=
 (fun a w s _=>by
  have e:IntKind.u64.wrap ((q:Int)+(r:Int))=((q+r:Nat):Int):=by rw[IntKind.wrap_u64];omega
  simp[execOp,s.ev hx,s.ev hy,eqGuard_at_int,binOp_add,Op.intArith,e])
theorem b9j {q r:Nat} (hx:ev L x=some (.int .u64 ((q:Nat):Int))) (hy:ev L y=some (.int .u64 ((r:Nat):Int))) (hb:q * r<18446744073709551616):OV P n E I L H ⟨some d,.binOp .mul tx x y tyy,ty,pos,af,none⟩ (.int .u64 ((q * r:Nat):Int)):=
 (fun a w s _=>by
  have e0:(q:Int) * (r:Int)=((q * r:Nat):Int):=(Int.natCast_mul q r).symm;have e:IntKind.u64.wrap ((q:Int) * (r:Int))=((q * r:Nat):Int):=by rw[e0,IntKind.wrap_u64];omega
  simp[execOp,s.ev hx,s.ev hy,eqGuard_at_int,binOp_mul,Op.intArith,e])
theorem b2D {i j:Int} (hx:ev L x=some (.int .i64 i)) (hy:ev L y=some (.int .i64 j)):OV P n E I L H ⟨some d,.binOp .add tx x y tyy,ty,pos,af,none⟩ (.int .i64 (IntKind.i64.wrap (i+j))):=
 (fun a w s _=>by simp[execOp,s.ev hx,s.ev hy,eqGuard_at_int,binOp_add,Op.intArith])
theorem d5T {q r:Nat} (hx:ev L x=some (.int .u64 ((q:Nat):Int))) (hy:ev L y=some (.int .u64 ((r:Nat):Int))):OV P n E I L H ⟨some d,.binOp .mul tx x y tyy,ty,pos,af,none⟩ (.int .u64 ((q * r % 18446744073709551616:Nat):Int)):=
 (fun a w s _=>by
  have e0:(q:Int) * (r:Int)=((q * r:Nat):Int):=(Int.natCast_mul q r).symm;have e:IntKind.u64.wrap ((q:Int) * (r:Int))=((q * r % 18446744073709551616:Nat):Int):=by rw[e0,IntKind.wrap_u64];omega
  simp[execOp,s.ev hx,s.ev hy,eqGuard_at_int,binOp_mul,Op.intArith,e])
end
end Go.Sx
set_option linter.all false
namespace Go.Sx
open Go
def b6t (l:List Int):Nat→Int
 |0=>l[0]?.getD 0
 |i+1=>if l[i+1]?.getD 0<b6t l i then l[i+1]?.getD 0 else b6t l i
def b6s (l:List Int):Nat→Int
 |0=>l[0]?.getD 0
 |i+1=>if l[i+1]?.getD 0>b6s l i then l[i+1]?.getD 0 else b6s l i
section
variable {l:List Int} {i:Nat}
theorem c2U (h:0<l.length):b6t l 0=l[0]:=by simp[b6t,h]
theorem c2P (h:0<l.length):b6s l 0=l[0]:=by simp[b6s,h]
theorem c2T (h:i+1<l.length):(if l[i+1]<b6t l i then l[i+1] else b6t l i)=b6t l (i+1):=by simp[b6t,h]
theorem c2O (h:i+1<l.length):(if l[i+1]>b6s l i then l[i+1] else b6s l i)=b6s l (i+1):=by simp[b6s,h]
end
theorem d4F (a b:Int):(if b<a then b else a)=min a b:=oM
theorem d4B (a b:Int):(if b>a then b else a)=max a b:=oM
theorem d4E (a b c d:Int):b6t [a,b,c,d] 3=min (min (min a b) c) d:=by
 show (if d<(if c<(if b<a then b else a) then c else (if b<a then b else a)) then d else (if c<(if b<a then b else a) then c else (if b<a then b else a)))=_
 simp only[d4F]
theorem d4A (a b c d:Int):b6s [a,b,c,d] 3=max (max (max a b) c) d:=by
 show (if d>(if c>(if b>a then b else a) then c else (if b>a then b else a)) then d else (if c>(if b>a then b else a) then c else (if b>a then b else a)))=_
 simp only[d4B]
theorem c9O {f:Int→Int→Int} {a b:Ivl} (h:(!a2v a || !a2v b)=true):b1x f a b=a9M:=if_pos h
theorem c5z {f:Int→Int→Int} {a b:Ivl} (h:(!a2v a || !a2v b)=false):b1x f a b=⟨b6t [f a.low b.low,f a.low b.high,f a.high b.low,f a.high b.high] 3,b6s [f a.low b.low,f a.low b.high,f a.high b.low,f a.high b.high] 3⟩:=by
 unfold b1x;rw[if_neg (by rw[h];decide),d4E,d4A]
theorem c9N {a b:Ivl} (h:(!a2v a || !a2v b)=false):((-(1000000000000:Int)≤a.low∧a.low≤(1000000000000:Int))∧(-(1000000000000:Int)≤a.high∧a.high≤(1000000000000:Int)))∧((-(1000000000000:Int)≤b.low∧b.low≤(1000000000000:Int))∧(-(1000000000000:Int)≤b.high∧b.high≤(1000000000000:Int))):=by
 simp only[Bool.or_eq_false_iff,Bool.not_eq_false']at h
 have h1:=a0W.1 h.1;have h2:=a0W.1 h.2
 omega
theorem d0U {a b:Ivl} (h:(!a2v a || !a2v b)=true):a4H a b=a9M:=if_pos h
theorem c6x {a b:Ivl} (h:(!a2v a || !a2v b)=false):a4H a b=⟨b6t [a.low,a.high,b.low,b.high] 3,b6s [a.low,a.high,b.low,b.high] 3⟩:=by
 have hn:¬(!a2v a || !a2v b)=true:=by rw[h];decide
 simp only[Bool.or_eq_false_iff,Bool.not_eq_false']at h
 have h1:=a0W.1 h.1;have h2:=a0W.1 h.2;unfold a4H;rw[if_neg hn,d4E,d4A]
 congr 1<;>omega
theorem d2o {a b:Int} (h:(!(decide (a<0) == decide (b<0)))=true) : -(min ((a.natAbs * b.natAbs:Nat):Int) (1000000000000:Int))=b2u (a * b):=by
 have e:(((a.natAbs * b.natAbs:Nat)):Int)=((a * b).natAbs:Int):=by rw[Int.natAbs_mul]
 rw[e];unfold b2u
 by_cases ha:a<0<;>by_cases hb:b<0
 ·simp[ha,hb]at h
 ·have:a * b≤0:=Int.mul_nonpos_of_nonpos_of_nonneg oM oM
  omega
 ·have:a * b≤0:=Int.mul_nonpos_of_nonneg_of_nonpos oM oM
  omega
 ·simp[ha,hb]at h
theorem d2p {a b:Int} (h:(!(decide (a<0) == decide (b<0)))=false):(min ((a.natAbs * b.natAbs:Nat):Int) (1000000000000:Int))=b2u (a * b):=by
 have e:(((a.natAbs * b.natAbs:Nat)):Int)=((a * b).natAbs:Int):=by rw[Int.natAbs_mul]
 rw[e];unfold b2u
 by_cases ha:a<0<;>by_cases hb:b<0
 ·have:=Int.mul_nonneg_of_nonpos_of_nonpos (a:=a) (b:=b) oM oM
  omega
 ·simp[ha,hb]at h
 ·simp[ha,hb]at h
 ·have:=Int.mul_nonneg (a:=a) (b:=b) oM oM
  omega
theorem d2H {a b:Int}:(a.tdiv b).natAbs≤a.natAbs∧(a.tdiv b * b).natAbs≤a.natAbs:=by
 have h1:(a.tdiv b).natAbs≤a.natAbs:=by rw[Int.natAbs_tdiv];exact Nat.div_le_self _ _
 refine⟨h1,?_⟩;rw[Int.natAbs_mul,Int.natAbs_tdiv];exact Nat.div_mul_le_self _ _
def b0u (a b:Int):Bool:=!decide (a.tdiv b * b=a) && !(decide (a<0) == decide (b<0))
theorem d0F {a b:Int} (h:b=0):a3Z a b=0:=if_pos h
theorem d0E {a b:Int} (h:¬b=0) (h2:b0u a b=true):a.tdiv b-1=a3Z a b:=by
 unfold a3Z
 simp only[b0u,Bool.and_eq_true,Bool.not_eq_true',decide_eq_false_iff_not]at h2
 rw[if_neg h,if_pos ⟨h2.1,by cases h1:decide (a<0)<;>cases h3:decide (b<0)<;>simp_all⟩]
theorem d0D {a b:Int} (h:¬b=0) (h2:b0u a b=false):a.tdiv b=a3Z a b:=by
 unfold a3Z;rw[if_neg h,if_neg];rintro⟨h3,h4⟩
 simp only[b0u]at h2
 cases h1:decide (a<0)<;>cases h5:decide (b<0)<;>simp_all
section
variable {f:Fm} {n m:Int} {i:Nat}
theorem c1F:∀{ks:List Fm} {k:Fm},k∈ks→cntN k≤cntNL ks
 | [],k,h=>by cases h
 |x::ks,k,h=>by
  simp only[cntNL]
  rcases List.mem_cons.1 h with rfl|h
  ·omega
  ·have:=c1F h;omega
theorem a4e {k:Fm} (h:k∈f.kids):cntN k<cntN f:=by
 obtain⟨op,n,kids⟩:=f;have:=c1F (show k∈kids from h)
 simp only[cntN];omega
theorem b0N:nodesL (f.kids.drop 0) 1 m=nodesF f m:=by cases f;rfl
theorem b2j (hi:i<f.kids.length) (h:nodesL (f.kids.drop i) n m=nodesF f m) (hn:¬n>m):nodesL (f.kids.drop (i+1)) (n+nodesF f.kids[i] (m-n)) m=nodesF f m:=by
 rw[List.drop_eq_getElem_cons hi]at h
 rw[←h];simp only[nodesL,if_neg hn]
theorem b2k (hi:i<f.kids.length) (h:nodesL (f.kids.drop i) n m=nodesF f m) (hn:n>m):n=nodesF f m:=by
 rw[List.drop_eq_getElem_cons hi]at h
 rw[←h];simp only[nodesL,if_pos hn]
theorem b4T (hi:¬i<f.kids.length) (h:nodesL (f.kids.drop i) n m=nodesF f m):n=nodesF f m:=by
 rw[List.drop_eq_nil_of_le oM]at h
 rw[←h];rfl
def b4b (f:Fm):Bool:=decide (f.op<1)||decide (f.op>11)
def b1w (f:Fm):Bool:=((!decide ((f.kids.length:Int)=a8T f.op)||decide (f.n<0))||decide (f.n>9999999))||(decide (f.n>0) && !decide (f.op=1))
theorem a9C:rightF f=(!b4b f&&(!b1w f&&a3v (fun _ k=>rightF k) f.kids f.kids.length)):=by
 have hl:∀ks:List Fm,rightL ks=ks.all rightF:=fun ks=>by
  induction ks with
  |nil=>rfl
  |cons x ks ih=>simp only[rightL,List.all_cons,ih]
 have ha:∀ks:List Fm,a3v (fun _ k=>rightF k) ks ks.length=ks.all rightF:=fun ks=>by
  rw[Bool.eq_iff_iff]
  constructor
  ·intro h;rw[List.all_eq_true];intro x hx;obtain⟨pre,h1⟩:=a3P h hx;exact h1
  ·intro h;rw[List.all_eq_true]at h
   unfold a3v;rw[List.all_eq_true];intro i hi
   cases hq:ks[i]? with
   |none=>rfl
   |some x=>exact h x (List.mem_of_getElem? hq)
 obtain⟨op,n,kids⟩:=f;rw[ha]
 simp only[rightF,hl,b4b,b1w,Fm.op,Fm.n,Fm.kids,ne_eq,decide_not,Bool.and_assoc]
 rfl
theorem c3W (h1:b4b f=false) (h2:b1w f=false) (h3:a3v (fun _ k=>rightF k) f.kids f.kids.length=true):rightF f=true:=by rw[a9C,h1,h2,h3];rfl
theorem c7M (h1:b4b f=true):rightF f=false:=by rw[a9C,h1];rfl
theorem c7N (h1:b1w f=true):rightF f=false:=by rw[a9C,h1];simp
theorem c3X (h1:i<f.kids.length) (h:rightF f.kids[i]=false):rightF f=false:=by rw[a9C,a1g (f:=fun _ k=>rightF k) h1 h];simp
theorem a7U (h:rightF f=true):(1≤f.op∧f.op≤11)∧(f.kids.length:Int)=a8T f.op∧(0≤f.n∧f.n≤9999999)∧∀k∈f.kids,rightF k=true:=by
 cases f;exact a7T h
theorem a4A (h:rightF f=true) (i:Nat) (hi:i<f.kids.length):rightF f.kids[i]=true:=(a7U h).2.2.2 _ (List.getElem_mem hi)
theorem d8s {l:List Fm} (h:l.length=0):l=[]:=List.eq_nil_of_length_eq_zero h
theorem c8f (h:rightF f=true) (h1:f.op=1) (u:Use):a2K u f=⟨f.n,f.n⟩:=by
 have h2:=(a7U h).2.1;obtain⟨op,n,kids⟩:=f;obtain rfl:op=1:=h1;obtain rfl:kids=[]:=d8s (by simpa[a8T,Fm.op,Fm.kids]using h2)
 simp[a2K,Fm.n]
theorem b7d (h:rightF f=true) (h1:¬f.op=1) (h4:f.op≤4) (u:Use):a2K u f=a6W u f.op:=by
 have h2:=(a7U h).2.1;obtain⟨op,n,kids⟩:=f;have g1:¬op=1:=h1;have g4:op≤4:=h4
 obtain rfl:kids=[]:=d8s (by
  have:(kids.length:Int)=a8T op:=h2;unfold a8T at this
  rw[if_neg oM,if_neg oM]at this
  omega)
 show (if op=1 then _ else _)=_
 rw[if_neg g1];rfl
theorem d7A (h:rightF f=true) (h1:f.op=11):f.kids.length=3:=by
 have h2:=(a7U h).2.1;rw[h1]at h2
 have e:a8T 11=3:=by decide
 rw[e]at h2;omega
theorem d7z (h:rightF f=true) (h1:¬f.op=11) (h4:¬f.op≤4):f.kids.length=2:=by
 have h2:=(a7U h).2.1;unfold a8T at h2
 rw[if_neg h1,if_pos oM]at h2
 omega
theorem d2x (h3:f.kids.length=3) (u:Use):a2K u f=a6S (a2K u f.kids[0]) (a2K u f.kids[1]) (a2K u f.kids[2]):=by
 obtain⟨op,n,kids⟩:=f;have h3:kids.length=3:=h3
 match kids,h3 with
 | [a,b,c],_=>simp only[a2K,Fm.kids];rfl
theorem c8g (h3:f.kids.length=2) (u:Use):a2K u f=a5Q f.op (a2K u f.kids[0]) (a2K u f.kids[1]):=by
 obtain⟨op,n,kids⟩:=f;have h3:kids.length=2:=h3
 match kids,h3 with
 | [a,b],_=>simp only[a2K,Fm.kids];rfl
end
theorem a4g {I:IMap} {s:Value} {k:Fm} (h:RdS I s k.kids):FmRd I [ci k.op,ci k.n,s] k:=by cases k;exact fm_in _ _ h
def c5k (l:List Ivl):List Value:=l.flatMap Ivl.cells
theorem b4I {I:IMap} (l:List Ivl):Flat I (c5k l) l:=by
 induction l with
 |nil=>exact .nil
 |cons x l ih=>exact .cons rfl ih
theorem c6s (l m:List Ivl):c5k (l++m)=c5k l++c5k m:=List.flatMap_append
theorem c6t (x:Ivl):c5k [x]=x.cells:=by simp[c5k]
theorem RdS.rda {α:Type} [Enc α] {I:IMap} {A:Option Addr} {m c:Nat} {l:List α} (h:RdS I (.slice A m c) l):RdA I A l:=by
 obtain⟨_,_,e,h,_⟩:=h;cases e;exact h
theorem b2v (a:Ivl) (x y:Int):(a2J a x y).length≤2:=by unfold a2J;split<;>simp
theorem d3X {a b:Ivl} (h:0<(a4s a b).length):d3i a b=(a4s a b).foldl a4H (a4s a b)[0]:=by
 have hd:∀(l:List Ivl) (h:0<l.length),l.headD a9M=l[0]:=fun l h=>by cases l with|nil=>simp at h|cons x l=>rfl
 unfold d3i;rw[hd _ h]
theorem d5O {u:Use} {i:Nat} (h:i<3) (hb:a8Q ([u.km,u.cycles,u.load][i])=false):a8R u=false:=by
 have h3:i=0∨i=1∨i=2:=oM
 rcases h3 with rfl|rfl|rfl<;>(simp at hb;simp[a8R,hb])
theorem d2N {u:Use} (h:a3v (fun _ q=>a8Q q) [u.km,u.cycles,u.load] 3=true):a8R u=true:=by
 unfold a3v at h
 rw[List.all_eq_true]at h
 have h0:=h 0 (by simp);have h1:=h 1 (by simp);have h2:=h 2 (by simp)
 simp at h0 h1 h2
 simp[a8R,h0,h1,h2]
theorem d3V {f:Fm} {u:Use} (h:a8R u=false):b2S f u=a9M:=by unfold b2S;rw[if_pos h]
theorem d0l {f:Fm} {u:Use} (h:a8R u=true) (hv:a2L f=false):b2S f u=a9M:=by unfold b2S;rw[if_neg (by rw[h];decide),if_pos hv]
theorem d0m {f:Fm} {u:Use} (h:a8R u=true) (hv:a2L f=true):b2S f u=⟨max 0 (a2K u f).low,max 0 (a2K u f).high⟩:=by unfold b2S;rw[if_neg (by rw[h];decide),if_neg (by rw[hv];decide)]
theorem b9M {l:List Ivl} {z:Ivl} {i:Nat} (h:i<l.length):(l.take (i+1)).foldl a4H z=a4H ((l.take i).foldl a4H z) l[i]:=by
 rw[←a0c h,List.foldl_append];rfl
section
variable {P:Program} {ρ:Option Nat} {n:Sz} {E:Ent} {I I':IMap} {L:LL} {H H0:List Res} {Q:Exit→Act→World→Prop} {ops:Array Oper} {K:Act→World→Prop}
variable {d ty:Nat} {pos:String} {af:Array Edge} {fo:Operand} {as_:List Operand} {ats:Array TypeId} {f:FuncId} {args:List Value} {r1 r2 r3:Res}
theorem b8y {post:Value→IMap→List Res→Prop} (hc:FnH P f args.toArray I [r1,r2,r3] post) (h:a1w L fo as_=some (f,args)) (hd:Nat.blt d n.sz=true)
  (k:∀v I' H',ILe I I'→post v I' H'→SX n E I' ((d,v)::L) (H'++H0) K) :
  SX n E I L (r1::r2::r3::H0) (one P ops Q ⟨some d,.call { callee:=.value fo,args:=as_.toArray,argTypes:=ats },ty,pos,af,none⟩ K):=a2H (Hc:=[r1,r2,r3]) hc h hd k
theorem a9I {a b c:Res} (h:SX n E I L (a::b::c::H) K):SX n E I L ([a,b,c]++H) K:=h
end
end Go.Sx
set_option linter.all false
namespace Go.Sx
open Go
section
variable {c:List Kind} {f:Fm} {st:List Part} {l L:List Evt} {p q:Part} {e:Evt} {d:Ivl} {day:Int} {i:Nat} {k:Int}
def a7k (st:List Part):Nat:=st.length+b1X st
theorem b1Y (st:List Part):b1X st=st.countP fun p=>!decide (p.into=a0M):=by unfold b1X;rw[List.countP_eq_length_filter]
theorem b7S (st:List Part) (i:Nat) (p:Part):b1X (st.set i p)≤b1X st+1:=by
 rw[b1Y,b1Y]
 rcases Nat.lt_or_ge i st.length with h|h
 ·rw[List.set_eq_take_append_cons_drop,if_pos h];have h2:st.countP (fun p=>!decide (p.into=a0M))=(st.take i).countP (fun p=>!decide (p.into=a0M))+(st.drop i).countP (fun p=>!decide (p.into=a0M)):=by rw[←List.countP_append,List.take_append_drop]
  have h3:(st.drop (i+1)).countP (fun p=>!decide (p.into=a0M))≤(st.drop i).countP (fun p=>!decide (p.into=a0M)):=by
   rw[List.drop_eq_getElem_cons h,List.countP_cons];omega
  rw[List.countP_append,List.countP_cons]
  split<;>omega
 ·rw[List.set_eq_of_length_le h];omega
theorem d0e (hi:Inc Part.name st) (h:(a0e st q.name).isSome=true):a7k (a5a Part.name st q)≤a7k st+1:=by
 have ha:atF Part.name st q.name=true:=by rw[a9Y hi];exact h
 unfold a7k a5a;rw[if_pos ha,List.length_set];have:=b7S st (a6y Part.name st q.name) q
 omega
theorem d0d (hq:q.into=a0M):a7k (a5a Part.name st q)≤a7k st+1:=by
 unfold a5a
 split
 ·unfold a7k;rw[List.length_set];have:=b7S st (a6y Part.name st q.name) q
  omega
 ·unfold a7k;rw[b1Y,b1Y,List.countP_append,List.countP_cons,List.length_append,List.length_cons];have h2:st.countP (fun p=>!decide (p.into=a0M))=(st.take (a6y Part.name st q.name)).countP (fun p=>!decide (p.into=a0M))+(st.drop (a6y Part.name st q.name)).countP (fun p=>!decide (p.into=a0M)):=by rw[←List.countP_append,List.take_append_drop]
  have h3:(st.take (a6y Part.name st q.name)).length+(st.drop (a6y Part.name st q.name)).length=st.length:=by rw[←List.length_append,List.take_append_drop]
  simp only[hq,decide_true,Bool.not_true,Bool.false_eq_true,if_false]
  omega
theorem b4m (h:(a0j c st e).2=0):a7k (a0j c st e).1≤a7k st+1:=by
 have hi:=(b3Z h).1;have hf:∀n,a7k (a5V n).1≤a7k st+1:=fun n=>by show a7k []≤_;unfold a7k b1X;simp
 unfold a0j at h ⊢
 split
 ·exact hf _
 ·split
  ·unfold a3T
   split
   ·exact hf _
   split
   ·exact hf _
   split
   ·exact hf _
   ·exact d0d rfl
  ·unfold a0K
   split
   ·exact hf _
   rename_i h2
   split
   ·exact hf _
   have hs:(a0e st e.part).isSome=true:=(b0b h2).1;obtain⟨p0,hp0⟩:=Option.isSome_iff_exists.1 hs;have hP:a3i st e=p0:=by unfold a3i;rw[hp0];rfl
   have hn:p0.name=e.part:=by simpa using List.find?_some hp0
   have hput:∀q:Part,q.name=p0.name→a7k (c0v st q).1≤a7k st+1:=fun q hq=>d0e hi (by rw[hq,hn];exact hs)
   rw[hP];unfold a2a a1v a0I a1q a1d a0N
   repeat' split
   all_goals first
    |exact hf _
    |exact hput _ rfl
theorem c1G:a7k (useL st e d)=a7k st:=by
 unfold a7k useL;rw[b1Y,b1Y,List.length_map,List.countP_map]
 congr 1
 refine List.countP_congr fun p _=>?_
 simp only[Function.comp]
 split<;>rfl
theorem d5P (h:SmF st):SmF (useL st e d):=fun p hp=>by
 unfold useL at hp
 obtain⟨q,hq,rfl⟩:=List.mem_map.1 hp;have:=h q hq
 split<;>exact this
theorem b8Q (h:(!a1I c || !a2L f)=true):runL f c l day=([],-1,1):=if_pos h
theorem d2j (h:(!a1I c || !a2L f)=false):runL f c l day=runLGo f c [] 0 ((a1N (l.filter fun e=>!decide (e.day>day))).drop 0):=by
 unfold runL;rw[if_neg (by rw[h];decide)];rfl
theorem c6l (hi:i<L.length) (h:¬(a0j c st L[i]).2=0):runLGo f c st k (L.drop i)=([],k,(a0j c st L[i]).2):=by
 rw[List.drop_eq_getElem_cons hi,runLGo,if_neg (by rw[a3x];exact h),a3x]
theorem c2t (hi:i<L.length) (h:(a0j c st L[i]).2=0) (h4:¬L[i].op=4):runLGo f c st k (L.drop i)=runLGo f c (a0j c st L[i]).1 (k+1) (L.drop (i+1)):=by
 rw[List.drop_eq_getElem_cons hi,runLGo,if_pos (by rw[a3x];exact h)];unfold applyL;rw[if_neg (fun hc=>h4 hc.2)]
theorem d0L (hi:i<L.length) (h:(a0j c st L[i]).2=0) (h4:L[i].op=4):runLGo f c st k (L.drop i)=runLGo f c (useL (a0j c st L[i]).1 L[i] (b2S f L[i].use)) (k+1) (L.drop (i+1)):=by
 rw[List.drop_eq_getElem_cons hi,runLGo,if_pos (by rw[a3x];exact h)];unfold applyL;rw[if_pos ⟨h,h4⟩]
theorem d0K (hi:¬i<L.length):runLGo f c st k (L.drop i)=(st,-1,0):=by rw[List.drop_eq_nil_of_le oM];rfl
noncomputable def useUp (st:List Part) (e:Evt) (d:Ivl) (i:Nat):List Part:=(useL st e d).take i++st.drop i
theorem use_len:(useL st e d).length=st.length:=by unfold useL;exact List.length_map ..
theorem b5C (i:Nat):(useUp st e d i).length=st.length:=by
 unfold useUp;rw[List.length_append,List.length_take,List.length_drop,use_len];omega
theorem c0O:useUp st e d 0=st:=by simp[useUp]
theorem c4F:useUp st e d st.length=useL st e d:=by
 unfold useUp;rw[List.drop_length,List.append_nil,←use_len (e:=e) (d:=d),List.take_length]
theorem b9d {i:Nat} (hi:i<st.length):(useUp st e d i)[i]? = some st[i]:=by
 unfold useUp;rw[List.getElem?_append_right (by rw[List.length_take,use_len];omega),List.length_take,use_len,Nat.min_eq_left oM,Nat.sub_self,List.getElem?_drop,Nat.add_zero];exact List.getElem?_eq_getElem hi
theorem b2C {i:Nat} (hi:i<st.length):useUp st e d (i+1)=(useUp st e d i).set i ((useL st e d)[i]'(by rw[use_len];exact hi)):=by
 unfold useUp;have hl:((useL st e d).take i).length=i:=by rw[List.length_take,use_len];omega
 rw[List.set_append_right _ _ oM,hl,Nat.sub_self,List.drop_eq_getElem_cons hi,List.set_cons_zero,←a0c (by rw[use_len];exact hi),List.append_assoc]
 rfl
theorem c8t {i:Nat} (hi:i<st.length) {ns:List ByteArray} (hn:∀n,n∈ns↔a7c st e.part n) (h:st[i].name∈ns++[e.part]):(useL st e d)[i]'(by rw[use_len];exact hi)=a9P d e.use st[i]:=by
 simp only[useL,List.getElem_map]
 rw[if_pos]
 rcases List.mem_append.1 h with h|h
 ·exact .inr ((hn _).1 h)
 ·exact .inl (List.mem_singleton.1 h)
theorem d2L {i:Nat} (hi:i<st.length) {ns:List ByteArray} (hn:∀n,n∈ns↔a7c st e.part n) (h:¬st[i].name∈ns++[e.part]):(useL st e d)[i]'(by rw[use_len];exact hi)=st[i]:=by
 simp only[useL,List.getElem_map]
 rw[if_neg];rintro (h1|h1)
 ·exact h (List.mem_append.2 (.inr (List.mem_singleton.2 h1)))
 ·exact h (List.mem_append.2 (.inl ((hn _).2 h1)))
theorem c8r {i:Nat} (hi:i<st.length) {ns:List ByteArray} (hn:∀n,n∈ns↔a7c st e.part n) (h:¬st[i].name∈ns++[e.part]):useUp st e d (i+1)=useUp st e d i:=by
 rw[b2C hi,d2L hi hn h];have h1:=b9d (e:=e) (d:=d) hi;have hl:i<(useUp st e d i).length:=by rw[b5C];exact hi
 rw[List.getElem?_eq_getElem hl]at h1
 rw[←Option.some.inj h1];exact List.set_getElem_self hl
theorem d2k (h:(a0j c st e).2=0) (h4:e.op=4):0<st.length:=by
 have h0:=h;unfold a0j at h
 split at h
 ·cases h
 ·rw[if_neg oM]at h
  unfold a0K at h
  split at h
  ·cases h
  ·rename_i h2
   exact List.length_pos_of_mem (b0U (b0b h2).1)
end
theorem c1W {todo:List NU} {a b:List (ByteArray×Value)} {p:ByteArray×Value} (h:a3h todo=a++p::b):∃n u a' b',todo=a'++(n,u)::b'∧a3h a'=a∧a3h b'=b∧p=(n,.string u):=by
 unfold a3h at h
 obtain⟨a',c',rfl,h2,h3⟩:=List.map_eq_append_iff.1 h;obtain⟨⟨n,u⟩,b',rfl,h4,h5⟩:=List.map_eq_cons_iff.1 h3;exact⟨n,u,a',b',rfl,h2,h5,h4.symm⟩
theorem ItS.Step.nu {R todo:List NU} {t':List (ByteArray×Value)} {S S':ItS} {q:Option (ByteArray×Value)} (h:ItS.Step Value.string (a3h R) (a3h todo) S q S' t') (hq:q.isSome=true) :
  ∃(n u:ByteArray) (a b:List NU),todo=a++(n,u)::b∧S'.Ok Value.string (a3h R)∧S'.Todo Value.string (a3h (a++b))∧S'.At Value.string (n,.string u)∧q = .some (n,.string u):=by
 obtain⟨p,a,b,h1,h2,h3,h4,h5,_⟩:=h.some hq;obtain⟨n,u,a',b',e1,e2,e3,e4⟩:=c1W h1;subst e4;exact⟨n,u,a',b',e1,h2,by rw[show a3h (a'++b')=a3h a'++a3h b' from List.map_append,e2,e3];exact h3,h4,h5⟩
theorem ItS.Step.nuNone {R todo:List NU} {t':List (ByteArray×Value)} {S S':ItS} {q:Option (ByteArray×Value)} (h:ItS.Step Value.string (a3h R) (a3h todo) S q S' t') (hq:q.isSome=false):todo=[]∧q = .none∧S'=S:=by
 obtain⟨h1,h2,h3⟩:=h.none hq;exact⟨by cases todo with|nil=>rfl|cons p t=>simp[a3h]at h1,h2,h3⟩
theorem c7g {done todo a b kvs:List (ByteArray×Value)} {p:ByteArray×Value} (hP:(done++todo).Perm kvs) (h:todo=a++p::b) (hn:(kvs.map Prod.fst).Nodup):p.1∉done.map Prod.fst:=fun hm=>by
 have h1:=((hP.map Prod.fst).nodup_iff).2 hn;rw[List.map_append]at h1
 refine (List.nodup_append.1 h1).2.2 _ hm p.1 (List.mem_map_of_mem (by rw[h];simp)) rfl
theorem c6a {l:List Part} {ks:List ByteArray} {n:ByteArray} (h:n∉ks):n∉(a4n l ks).map Prod.fst:=fun hm=>by
 rw[b2Z]at hm;exact h (List.mem_filter.1 hm).1
theorem c2i {l:List Part} {done:List (ByteArray×Value)} {p:ByteArray×Value} (h:upP l p.1≠a0M):a4n l ((done++[p]).map Prod.fst)=a4n l (done.map Prod.fst)++[(p.1,upP l p.1)]:=by
 rw[List.map_append];exact c6b h
theorem c2h {l:List Part} {done:List (ByteArray×Value)} {p:ByteArray×Value} (h:upP l p.1=a0M):a4n l ((done++[p]).map Prod.fst)=a4n l (done.map Prod.fst):=by
 rw[List.map_append];exact d0z h
theorem d0y {l:List Part} {done kvs:List (ByteArray×Value)} (hn:(kvs.map Prod.fst).Nodup) (hd:done.Perm kvs):((a4n l (done.map Prod.fst)).map Prod.fst).Nodup:=by
 rw[b2Z];exact List.filter_sublist.nodup (((hd.map _).nodup_iff).2 hn)
theorem c6h {I:IMap} {ys:List Value} {m:List ByteArray} (h:Flat I ys m):ys=(a1x m).flatten:=by
 obtain⟨xss,rfl,hC⟩:=FlatC.of h;obtain rfl:=b8Z hC
 rfl
theorem a0h {xss:List (List Value)} {i:Nat} {c c':List Value} (h:xss[i]? = some c):(xss.set i c')[i]? = some c':=by
 have hi:i<xss.length:=(List.getElem?_eq_some_iff.1 h).1;rw[List.getElem?_set_self hi]
theorem c5B {I:IMap} {xss:List (List Value)} {l:List Part} {k:Nat} {p:Part} (hx:FlatC I xss l) (hk:l[k]? = some p) (rest:List (List Value)):∃q,(xss++rest)[k]? = some (p.cells q)∧RdS I q p.props:=by
 have hkl:k<l.length:=(List.getElem?_eq_some_iff.1 hk).1;obtain⟨c,h1,h2⟩:=hx.at_ hkl;rw[List.getElem?_eq_getElem hkl]at hk
 rw[Option.some.inj hk]at h2
 obtain⟨q,rfl,hq⟩:=h2;exact⟨q,by rw[List.getElem?_append_left (List.getElem?_eq_some_iff.1 h1).1];exact h1,hq⟩
section
variable {P:Program} {ρ:Option Nat} {n:Sz} {E:Ent} {I:IMap} {L:LL} {H:List Res} {Q:Exit→Act→World→Prop} {ops:Array Oper} {K:Act→World→Prop}
variable {d ty:Nat} {pos:String} {af:Array Edge} {x y:Operand} {xss:List (List Value)} {c:List Value} {g off tt t' k kk:Nat}
theorem c1y (hU:Uk k xss) {i j:Nat} (hi:xss[i]? = some c) {vs:List Value} (hv:(c.drop j).take kk=vs) (hk:vs.length=kk) (hk0:0<kk):(xss.flatten.drop (i * k+j)).take kk=vs:=by
 have h1:=b6j hU hi;have hc:c.length=k:=hU c (List.mem_of_getElem? hi)
 have hjk:j+kk≤k:=by
  have:=congrArg List.length hv;rw[List.length_take,List.length_drop]at this
  omega
 rw[←hv,←h1,List.drop_take,List.take_take,List.drop_drop,Nat.min_eq_left oM]
theorem a2l (vs:List Value) (hm:Res.blk g t' xss.flatten∈H) (hU:Uk k xss) (ht:tyK P tt=some (true,kk)) (hx:ev L x=some (.pointer (some ⟨g,off,none⟩))) (i j:Nat) (ho:off=i * k+j) (hi:xss[i]? = some c) (hv:(c.drop j).take kk=vs) (hk:vs.length=kk) (hk0:Nat.blt 0 kk=true) :
  OV P n E I L H ⟨some d,.load tt x,ty,pos,af,none⟩ (.agg vs.toArray):=a1R vs hm ht hx (by subst ho;exact c1y hU hi hv hk (by simpa[Nat.blt_eq]using hk0)) hk
theorem d5R {v:Value} (hm:Res.blk g t' xss.flatten∈H) (hU:Uk k xss) (ht:tyK P tt=some (false,1)) (hx:ev L x=some (.pointer (some ⟨g,off,none⟩))) (i j:Nat) (ho:off=i * k+j) (hi:xss[i]? = some c) (hv:c[j]? = some v) :
  OV P n E I L H ⟨some d,.load tt x,ty,pos,af,none⟩ v:=b1m hm ht hx (by
   subst ho;have hj:j<c.length:=(List.getElem?_eq_some_iff.1 hv).1
   have h1:=c1y (kk:=1) hU hi (j:=j) (vs:=[v]) (by
    rw[List.drop_eq_getElem_cons hj];rw[List.getElem?_eq_getElem hj]at hv
    cases hv;rfl) rfl oM
   have h2:=congrArg (·[0]?) h1
   simpa[List.getElem?_take,List.getElem?_drop]using h2)
theorem a0R {b:Bool} {v:Value} (vs c':List Value) (hU:Uk k xss) (ht:tyK P tt=some (b,kk)) (hx:ev L x=some (.pointer (some ⟨g,off,none⟩))) (hy:ev L y=some v) (hv:v.cells=vs.toArray) (hk:vs.length=kk) (h1:vs.all (·.oneCell')=true) (i j:Nat) (ho:off=i * k+j) (hi:xss[i]? = some c) (hjk:j+kk≤k) (hc:c.take j++(vs++c.drop (j+kk))=c')
  (kk':SX n E I L (.blk g t' (xss.set i c').flatten::H) K):SX n E I L (.blk g t' xss.flatten::H) (one P ops Q ⟨none,.store tt x y,ty,pos,af,none⟩ K):=by
 subst ho;have hil:i<xss.length:=(List.getElem?_eq_some_iff.1 hi).1;have hcl:c.length=k:=hU c (List.mem_of_getElem? hi)
 have hc'l:c'.length=k:=by
  rw[←hc,List.length_append,List.length_append,List.length_take,List.length_drop,hk];omega
 have hspl:xss=xss.take i++c::xss.drop (i+1):=by
  have h2:xss[i]=c:=by rw[List.getElem?_eq_getElem hil]at hi;exact Option.some.inj hi
  rw[←h2,←List.drop_eq_getElem_cons hil,List.take_append_drop]
 have hfl:xss.flatten=(xss.take i).flatten++(c++(xss.drop (i+1)).flatten):=by
  conv=>lhs;rw[hspl]
  simp
 have hpl:(xss.take i).flatten.length=i * k:=by rw[a2O (hU.take i),List.length_take,Nat.min_eq_left oM]
 refine d7P vs _ ht hx hy hv hk ?_ h1 ?_ kk'
 ·apply Nat.ble_eq_true_of_le
  rw[a2O hU];have:(i+1) * k≤xss.length * k:=Nat.mul_le_mul_right _ hil;rw[Nat.add_mul]at this
  omega
 ·rw[List.set_eq_take_append_cons_drop,if_pos hil,hfl];rw[List.flatten_append,List.flatten_cons]
  have e1:((xss.take i).flatten++(c++(xss.drop (i+1)).flatten)).take (i * k+j)=(xss.take i).flatten++c.take j:=by
   rw[←hpl,List.take_length_add_append,List.take_append_of_le_length oM]
  have e2:((xss.take i).flatten++(c++(xss.drop (i+1)).flatten)).drop (i * k+j+kk)=c.drop (j+kk)++(xss.drop (i+1)).flatten:=by
   rw[←hpl,Nat.add_assoc,List.drop_length_add_append,List.drop_append_of_le_length oM]
  rw[e1,e2,←hc]
  simp
end
end Go.Sx
set_option linter.all false
namespace Go.Sx
open Go
def sKm:ByteArray:=⟨#[107,109]⟩
def a2Z:ByteArray:=⟨#[99,121,99,108,101,115]⟩
def a3t:ByteArray:=⟨#[100,97,109,97,103,101]⟩
def a8L:ByteArray:=⟨#[100,97,121,115]⟩
def c4d:ByteArray:=⟨#[97,103,101]⟩
def c8S:List ByteArray:=[sKm,a2Z,a3t,a8L,c4d]
def b0B (s:ByteArray):Bool:=decide (s∈c8S)
def b1h (day a:Int):Ivl:=if a≥day then a9M else ⟨day-max a (day-(1000000000000:Int)),day-max a (day-(1000000000000:Int))⟩
def c8R (p:Part) (s:ByteArray) (day:Int):Ivl:=if s=sKm then p.life.km else if s=a2Z then p.life.cycles else if s=a3t then p.life.damage else if s=a8L then b1h day p.since else b1h day p.made
def a4m (p:Part) (s:ByteArray) (day:Int):Ivl×Int:=if b0B s=false then (a9M,15) else if (decide (day<0)||decide (day>40000))=true then (a9M,13) else (c8R p s day,0)
section
variable {p:Part} {s:ByteArray} {day:Int}
theorem c8x (h:b0B s=false):a4m p s day=(a9M,15):=if_pos h
theorem c4S (h:b0B s=true) (hd:(decide (day<0)||decide (day>40000))=true):a4m p s day=(a9M,13):=by unfold a4m;rw[if_neg (by rw[h];decide),if_pos hd]
theorem c4T (h:b0B s=true) (hd:(decide (day<0)||decide (day>40000))=false):a4m p s day=(c8R p s day,0):=by unfold a4m;rw[if_neg (by rw[h];decide),if_neg (by rw[hd];decide)]
theorem b7G (v1 v2 v3 v4 v5:Value) (s:ByteArray):a4h [(sKm,v1),(a2Z,v2),(a3t,v3),(a8L,v4),(c4d,v5)] s=if s=sKm then some v1 else if s=a2Z then some v2 else if s=a3t then some v3 else if s=a8L then some v4 else if s=c4d then some v5 else none:=by
 simp only[a4h]
 simp only[eq_comm (b:=s)]
theorem b4q (s:ByteArray):(s=sKm∨s=a2Z∨s=a3t∨s=a8L∨s=c4d)∨b0B s=false:=by
 cases h:b0B s with
 |false=>exact .inr rfl
 |true=>
  left
  have h1:s∈c8S:=of_decide_eq_true h
  simpa[c8S]using h1
theorem d3R:(sKm≠a2Z∧sKm≠a3t∧sKm≠a8L∧sKm≠c4d)∧(a2Z≠a3t∧a2Z≠a8L∧a2Z≠c4d)∧(a3t≠a8L∧a3t≠c4d)∧a8L≠c4d:=by decide +kernel
end
section
variable {P:Program} {ρ:Option Nat} {n:Sz} {E:Ent} {I I':IMap} {L:LL} {H H0:List Res} {Q:Exit→Act→World→Prop} {ops:Array Oper} {K:Act→World→Prop}
variable {d ty:Nat} {pos:String} {af:Array Edge} {fo x y z:Operand} {as_:List Operand} {ats:Array TypeId} {f:FuncId} {args:List Value}
theorem a4N {κ:Type} [DecidableEq κ] {enc:κ→Value} {mt kt et r:Nat} {v:Value} {kvs:List (κ×Value)} (kvs':List (κ×Value)) (hK:KeyOK P kt enc) (ht:P.underlying mt=some (.map kt et)) (key:κ) (hx:ev L x=some (.map (some r))) (hy:ev L y=some (enc key)) (hv:ev L z=some v)
  (he:a4I kvs key v=kvs') (k:SX n E I L (.mp r (a1A enc kvs')::H) K):SX n E I L (.mp r (a1A enc kvs)::H) (one P ops Q ⟨none,.insert mt x y z,ty,pos,af,none⟩ K):=by
 intro a w st mm;have h1:=a2S (P:=P) (n:=n) (E:=E) (I:=I) (L:=L) (H:=H) (Q:=Q) (ops:=ops) (K:=K) (ty:=ty) (pos:=pos) (af:=af) kvs' hK ht key hx hy hv he k a w st mm;exact h1
end
end Go.Sx
set_option linter.all false
namespace Go.Sx
open Go
def b3j (s:List Part) (p kind:ByteArray):List ByteArray:=(d0P s p).filter fun n=>decide (((a0e s n).getD zPart).kind=kind)
def a6G (join:Int→Int→Int) (first:Int) (l:List Int):Int:=l.foldl join first
def a6R (s:List Part) (day:Int) (op:Int) (nm vl:ByteArray) (n ex:Int) (fs:List (ByteArray→Int)) (p:ByteArray):Int:=
 if op=1 then 2
 else if op=2 then d4J ((fs.headD fun _=>0) p)
 else if op=3 then a6G b3Y 2 (fs.map fun f=>f p)
 else if op=4 then a6G orT 0 (fs.map fun f=>f p)
 else if op=5∨op=6 then
  if (a4m ((a0e s p).getD zPart) nm day).2=0 then
   if op=6 then b1I (a4m ((a0e s p).getD zPart) nm day).1 n else d4J (b1I (a4m ((a0e s p).getD zPart) nm day).1 (n+ex))
  else 0
 else if op=7 then c8q (decide ((⟨nm,vl⟩:Prp)∈((a0e s p).getD zPart).props))
 else if op=8 then c8q (((a0e s p).getD zPart).props.any fun x=>decide (x.key=nm))
 else if op=9 then c8q (s.any fun q=>(decide (q.into=p)&&decide (q.slot=nm))&&decide (q.kind=vl))
 else if op=10 then a6G b3Y 2 ((b3j s p nm).map fun q=>(fs.headD fun _=>0) q)
 else if op=11 then a6G orT 0 ((b3j s p nm).map fun q=>(fs.headD fun _=>0) q)
 else c8q (decide (((b3j s p nm).length:Int)≥n))
mutual
def askF (s:List Part) (day:Int):Xp→ByteArray→Int
 |.mk op nm vl n ex ks,p=>a6R s day op nm vl n ex (askKs s day ks) p
def askKs (s:List Part) (day:Int):List Xp→List (ByteArray→Int)
 | []=>[]
 |k::ks=>askF s day k::askKs s day ks
end
def a8Y (s:List Part) (x:Xp) (p:ByteArray) (day:Int):Int:=if (!a5G ⟨⟨#[114]⟩,⟨#[107]⟩,x⟩||decide (d1Z p s=⟨#[]⟩))=true then 0 else askF s day x p
theorem b4a (s:List Part) (day:Int):∀ks:List Xp,askKs s day ks=ks.map (askF s day)
 | []=>rfl
 |k::ks=>by simp only[askKs,List.map_cons,b4a s day ks]
theorem a3y (s:List Part) (day:Int) (x:Xp) (p:ByteArray):askF s day x p=a6R s day x.op x.name x.value x.n x.extra (x.kids.map (askF s day)) p:=by
 cases x;simp only[askF,b4a];rfl
theorem b9c {t:Int} (h:t=0∨t=1∨t=2):trT t=t:=by unfold trT;split<;>omega
theorem c1d (a b:Int):b3Y a b=0∨b3Y a b=1∨b3Y a b=2:=by
 have:=b5z a;have:=b5z b;unfold b3Y;omega
theorem c9j (a b:Int):orT a b=0∨orT a b=1∨orT a b=2:=by
 have:=b5z a;have:=b5z b;unfold orT;omega
theorem c1e (z a b:Int):b3Y (b3Y z a) b=b3Y (b3Y z b) a:=by
 have h1:=b9c (c1d z a);have h2:=b9c (c1d z b)
 unfold b3Y at *;rw[h1,h2];omega
theorem c7b (z a b:Int):orT (orT z a) b=orT (orT z b) a:=by
 have h1:=b9c (c9j z a);have h2:=b9c (c9j z b)
 unfold orT at *;rw[h1,h2];omega
theorem b1Z {join:Int→Int→Int} (hj:∀z a b,join (join z a) b=join (join z b) a) {l m:List Int} (h:l.Perm m):∀z,a6G join z l=a6G join z m:=by
 unfold a6G
 induction h with
 |nil=>intro z;rfl
 |cons x _ ih=>intro z;exact ih _
 |swap x y l=>intro z;simp only[List.foldl_cons];rw[hj]
 |trans _ _ h1 h2=>intro z;rw[h1,h2]
theorem b9N {join:Int→Int→Int} {z:Int} {l:List Int} {i:Nat} (h:i<l.length):join (a6G join z (l.take i)) l[i]=a6G join z (l.take (i+1)):=by
 unfold a6G;rw[←a0c h,List.foldl_append];rfl
theorem c5x (s:Prp) (l:List Prp):(l.any fun x=>decide (s=x))=decide (s∈l):=by
 rw[Bool.eq_iff_iff,List.any_eq_true,decide_eq_true_eq];exact⟨fun ⟨x,h1,h2⟩=>by rw[of_decide_eq_true h2];exact h1,fun h=>⟨s,h,by simp⟩⟩
section
variable {s:List Part} {p k:ByteArray} {ns:List ByteArray}
theorem b9T (hn:ns.Nodup) (hm:∀n,n∈ns↔a7c s p n):(ns.filter fun n=>decide (((a0e s n).getD zPart).kind=k)).Perm (b3j s p k):=by
 unfold b3j;refine List.Perm.filter _ ?_;rw[List.perm_ext_iff_of_nodup hn d0Q];exact fun n=>by rw[hm,b3i]
end
section
variable {s:List Part} {day:Int} {x:Xp} {p:ByteArray}
theorem d6N (h:x.op=1):askF s day x p=2:=by rw[a3y];unfold a6R;rw[if_pos h]
theorem d6O (h:x.op=2) (h1:0<x.kids.length):askF s day x p=d4J (askF s day x.kids[0] p):=by
 rw[a3y];unfold a6R;rw[if_neg oM,if_pos h];obtain⟨k,ks,e⟩:∃k ks,x.kids=k::ks:=by cases hk:x.kids with|nil=>rw[hk]at h1;simp at h1|cons k ks=>exact⟨k,ks,rfl⟩
 simp only[e,List.map_cons,List.headD_cons,List.getElem_cons_zero]
theorem d6P (h:x.op=3):askF s day x p=a6G b3Y 2 (x.kids.map fun k=>askF s day k p):=by
 rw[a3y];unfold a6R;rw[if_neg oM,if_neg oM,if_pos h,List.map_map];rfl
theorem d6Q (h:x.op=4):askF s day x p=a6G orT 0 (x.kids.map fun k=>askF s day k p):=by
 rw[a3y];unfold a6R;rw[if_neg oM,if_neg oM,if_neg oM,if_pos h,List.map_map];rfl
theorem c9I (h:x.op=5∨x.op=6) (h0:¬(a4m ((a0e s p).getD zPart) x.name day).2=0):askF s day x p=0:=by
 rw[a3y];unfold a6R;rw[if_neg oM,if_neg oM,if_neg oM,if_neg oM,if_pos h,if_neg h0]
theorem d6S (h:x.op=6) (h0:(a4m ((a0e s p).getD zPart) x.name day).2=0):askF s day x p=b1I (a4m ((a0e s p).getD zPart) x.name day).1 x.n:=by
 rw[a3y];unfold a6R;rw[if_neg oM,if_neg oM,if_neg oM,if_neg oM,if_pos (.inr h),if_pos h0,if_pos h]
theorem d6R (h:x.op=5) (h0:(a4m ((a0e s p).getD zPart) x.name day).2=0):askF s day x p=d4J (b1I (a4m ((a0e s p).getD zPart) x.name day).1 (x.n+x.extra)):=by
 rw[a3y];unfold a6R;rw[if_neg oM,if_neg oM,if_neg oM,if_neg oM,if_pos (.inl h),if_pos h0,if_neg oM]
theorem d6T (h:x.op=7):askF s day x p=c8q (decide ((⟨x.name,x.value⟩:Prp)∈((a0e s p).getD zPart).props)):=by
 rw[a3y];unfold a6R;rw[if_neg oM,if_neg oM,if_neg oM,if_neg oM,if_neg oM,if_pos h]
theorem d6U (h:x.op=8):askF s day x p=c8q (((a0e s p).getD zPart).props.any fun q=>decide (q.key=x.name)):=by
 rw[a3y];unfold a6R;rw[if_neg oM,if_neg oM,if_neg oM,if_neg oM,if_neg oM,if_neg oM,if_pos h]
theorem d6V (h:x.op=9):askF s day x p=c8q (s.any fun q=>(decide (q.into=p)&&decide (q.slot=x.name))&&decide (q.kind=x.value)):=by
 rw[a3y];unfold a6R;rw[if_neg oM,if_neg oM,if_neg oM,if_neg oM,if_neg oM,if_neg oM,if_neg oM,if_pos h]
theorem c1i (h1:0<x.kids.length):((x.kids.map (askF s day)).headD fun _=>0)=askF s day x.kids[0]:=by
 obtain⟨k,ks,e⟩:∃k ks,x.kids=k::ks:=by cases hk:x.kids with|nil=>rw[hk]at h1;simp at h1|cons k ks=>exact⟨k,ks,rfl⟩
 simp only[e,List.map_cons,List.headD_cons,List.getElem_cons_zero]
theorem d3w (h:x.op=10) (h1:0<x.kids.length) {ns:List ByteArray} (hp:ns.Perm (b3j s p x.name)):askF s day x p=a6G b3Y 2 (ns.map fun q=>askF s day x.kids[0] q):=by
 rw[a3y];unfold a6R;rw[if_neg oM,if_neg oM,if_neg oM,if_neg oM,if_neg oM,if_neg oM,if_neg oM,if_neg oM,if_pos h,c1i h1];exact (b1Z c1e (hp.map _) _).symm
theorem d3x (h:x.op=11) (h1:0<x.kids.length) {ns:List ByteArray} (hp:ns.Perm (b3j s p x.name)):askF s day x p=a6G orT 0 (ns.map fun q=>askF s day x.kids[0] q):=by
 rw[a3y];unfold a6R;rw[if_neg oM,if_neg oM,if_neg oM,if_neg oM,if_neg oM,if_neg oM,if_neg oM,if_neg oM,if_neg oM,if_pos h,c1i h1];exact (b1Z c7b (hp.map _) _).symm
theorem d3y (h:x.op<1∨x.op>11) {ns:List ByteArray} (hp:ns.Perm (b3j s p x.name)):askF s day x p=c8q (decide ((ns.length:Int)≥x.n)):=by
 rw[a3y];unfold a6R;rw[if_neg oM,if_neg oM,if_neg oM,if_neg oM,if_neg oM,if_neg oM,if_neg oM,if_neg oM,if_neg oM,if_neg oM,hp.length_eq]
theorem a6v (h:allX a4w x=true):a4w x=true∧∀k∈x.kids,allX a4w k=true:=by
 have hl:∀ks:List Xp,allXL a4w ks=true→∀k∈ks,allX a4w k=true:=fun ks=>by
  induction ks with
  |nil=>intro _ k hk;cases hk
  |cons y ks ih=>
   intro h k hk
   simp only[allXL,Bool.and_eq_true]at h
   rcases List.mem_cons.1 hk with rfl|hk
   ·exact h.1
   ·exact ih h.2 k hk
 obtain⟨op,nm,vl,n,e,ks⟩:=x
 simp only[allX,Bool.and_eq_true]at h
 exact⟨h.1,hl ks h.2⟩
theorem b0M (h:a4w x=true) (h1:x.op=2∨x.op=10∨x.op=11):x.kids.length=1:=by
 have hq:a3E x=some (decide ((x.kids.length:Int)=1),decide (x.op≠2),⟨#[]⟩,0,0,true):=by
  rcases h1 with h1|h1
  ·rw[c3a h1,h1];rfl
  ·rw[b8x h1];have:decide (x.op≠2)=true:=decide_eq_true oM;rw[this]
 rw[a2E hq]at h
 simp only[b0L,Bool.and_eq_true,decide_eq_true_eq]at h
 omega
theorem c6R (h:a4w x=true) (h1:x.op=5∨x.op=6):(0≤x.n∧x.n≤9999999)∧(0≤x.extra∧x.extra≤9999999):=by
 rcases h1 with h1|h1
 ·rw[a2E (b6u h1)]at h
  simp only[b0L,b3y,Bool.and_eq_true,decide_eq_true_eq,if_true]at h
  omega
 ·rw[a2E (c3b h1)]at h
  simp only[b0L,b3y,Bool.and_eq_true,decide_eq_true_eq,if_true]at h
  omega
end
end Go.Sx
set_option linter.all false
namespace Go.Sx
open Go
section
variable {d:Dut} {l:List Evt} {p:ByteArray} {day b:Int}
end
section
variable {α:Type} [DecidableEq α] {lt:α→α→Bool} {x:α}
theorem b8b:∀(l:List α),(b5N lt x l).length≤l.length+1
 | []=>by simp[b5N]
 |y::l=>by
  simp only[b5N]
  split
  ·have:=b8b l;simp;omega
  ·split
   ·simp
   ·simp
theorem c8k (l:List α):(c0K lt l).length≤l.length:=by
 have key:∀(l a:List α),(l.foldl (fun a x=>b5N lt x a) a).length≤a.length+l.length:=by
  intro l
  induction l with
  |nil=>intro a;simp
  |cons y l ih=>intro a;have h1:=ih (b5N lt y a);have h2:=b8b (lt:=lt) (x:=y) a;simp only[List.foldl_cons,List.length_cons];omega
 have h:=key l [];rw[List.length_nil,Nat.zero_add]at h
 exact h
end
section
variable {d:Dut} {ds:List Dut} {c:List Kind} {l:List Evt} {p k:ByteArray} {day n:Int} {i:Nat}
end
end Go.Sx
set_option linter.all false
namespace Go.Sx
open Go
section
variable {κ:Type} [DecidableEq κ]
def KeysG (kvs:List (κ×Value)) (L:List κ):Prop:=(kvs.map Prod.fst).Nodup∧∀x,x∈kvs.map Prod.fst↔x∈L
theorem KeysG.nil:KeysG ([]:List (κ×Value)) []:=⟨List.nodup_nil,fun x=>Iff.rfl⟩
theorem KeysG.put {kvs:List (κ×Value)} {L:List κ} {x:κ} {v:Value} (h:KeysG kvs L):KeysG (a4I kvs x v) (L++[x]):=
 ⟨b0I h.1,fun z=>by rw[a7D,h.2,List.mem_append,List.mem_singleton,or_comm]⟩
theorem KeysG.one {kvs:List (κ×Value)} {L m:List κ} {v:Value} (h:KeysG kvs L) (h1:m.length=1):KeysG (a4I kvs (m[0]'oM) v) (L++m):=by
 match m,h1 with
 | [x],_=>exact h.put
theorem KeysG.zero {kvs:List (κ×Value)} {L m:List κ} (h:KeysG kvs L) (h0:¬((m.length:Nat):Int)=1) (hle:m.length≤1):KeysG kvs (L++m):=by
 match m with
 | []=>rw[List.append_nil];exact h
 | [x]=>exact absurd rfl h0
end
section
variable {ds:List Dut} {c:List Kind} {l:List Evt} {p:ByteArray} {day:Int} {i:Nat}
end
end Go.Sx
set_option linter.all false
namespace Go.Sx
open Go
def d8v (l:List Rep) (ch:List Int):Bool:=decide (((l.length:Nat):Int)=(ch.length:Nat))&&a8o okK l ch l.length
theorem b2r (l:List Rep) (ch:List Int):a0J l ch=if d8v l ch=true then (a6F l ch l.length,0) else ([],1):=rfl
theorem d4f {l:List Rep} {ch:List Int} {n:Nat} {e:Evt} (hsl:∀r∈l,∀e∈r.options,SmE e) (h:e∈a6F l ch n):SmE e:=by
 rw[a6F,List.mem_filterMap]at h
 obtain⟨i,_,h⟩:=h;unfold d4b at2 at h
 split at h
 ·rename_i r k h1 h2
  exact hsl r (List.mem_of_getElem? h1) e (List.mem_of_getElem? (by simpa using h))
 ·simp at h
end Go.Sx
set_option linter.all false
namespace Go.Sx
open Go
def a2h:List Rep→List Int→List Int×Bool
 |r::l,x::t=>if (a2h l t).2=true then (x::(a2h l t).1,true) else if x+1<chs r then ((x+1)::(a2h l t).1,true) else (0::(a2h l t).1,false)
 |_,_=>([],false)
def a3a (n:Nat):List Int:=List.replicate n 0
structure Chn (l:List Rep) (xs:List (List Int)):Prop where
 pos:0<xs.length
 first:xs[0]? = some (a3a l.length)
 step:∀k (h:k+1<xs.length),a2h l xs[k]=(xs[k+1],true)
 last:∀(h:xs.length-1<xs.length),a2h l xs[xs.length-1]=(a3a l.length,false)
theorem c6f {α:Type} {xs:List α} {n m:Nat} (f:Nat→α→List Int) (hm:xs.length=m):∀{q i:Nat} (hq:q<n) (hi:i<m),((List.range n).flatMap fun k=>xs.map (f k))[q * m+i]? = (xs[i]?).map (f q):=by
 induction n with
 |zero=>intro q i hq;omega
 |succ n ih=>
  intro q i hq hi;rw[List.range_succ,List.flatMap_append]
  have hlen:((List.range n).flatMap fun k=>xs.map (f k)).length=n * m:=by
   rw[List.length_flatMap]
   simp only[List.length_map,hm]
   rw[List.map_const',List.sum_replicate_nat,List.length_range]
  by_cases h:q<n
  ·rw[List.getElem?_append_left (by
    rw[hlen];have:(q+1) * m≤n * m:=Nat.mul_le_mul_right _ h
    rw[Nat.add_mul]at this;omega)]
   exact ih h hi
  ·obtain rfl:q=n:=oM;rw[List.getElem?_append_right (by rw[hlen];omega),hlen]
   simp
theorem b5O:∀{l:List Rep},(∀r∈l,1≤chs r)→Chn l (a1Q l)
 | [],_=>⟨by simp[a1Q],rfl,fun k h=>by simp[a1Q]at h,fun h=>rfl⟩
 |r::l,hp=>by
  have ih:=b5O (l:=l) fun x hx=>hp x (List.mem_cons_of_mem _ hx)
  have hr:=hp r (by simp);obtain⟨m,hm⟩:∃m,(a1Q l).length=m:=⟨_,rfl⟩;obtain⟨n,hn⟩:∃n,(chs r).toNat=n:=⟨_,rfl⟩;have hm0:0<m:=by rw[←hm];exact ih.pos
  have hlen:(a1Q (r::l)).length=n * m:=by rw[a9Q,a3O,hn,←a9Q,hm]
  have hat:∀{q i:Nat} (hq:q<n) (hi:i<m),(a1Q (r::l))[q * m+i]? = ((a1Q l)[i]?).map fun t=>(q:Int)::t:=fun hq hi=>by
   rw[a1Q,hn];exact c6f (fun (k:Nat) t=>(k:Int)::t) hm hq hi
  have hn0:0<n:=oM
  have hge:∀{k:Nat} (h:k<(a1Q (r::l)).length),∃(q i:Nat) (hq:q<n) (hi:i<(a1Q l).length),k=q * m+i∧(a1Q (r::l))[k]=(q:Int)::(a1Q l)[i]:=fun {k} h=>by
   rw[hlen]at h
   have hq:k / m<n:=(Nat.div_lt_iff_lt_mul hm0).2 h;have hi:k % m<m:=Nat.mod_lt _ hm0;have he:k=k / m * m+k % m:=by rw[Nat.mul_comm];exact (Nat.div_add_mod k m).symm
   refine⟨k / m,k % m,hq,by rw[hm];exact hi,he,?_⟩;have h1:=hat hq hi;rw[←he,List.getElem?_eq_getElem (by rw[hlen];exact h),List.getElem?_eq_getElem (by rw[hm];exact hi)]at h1
   exact Option.some.inj h1
  refine⟨by rw[hlen];exact Nat.mul_pos hn0 hm0,?_,fun k h=>?_,fun h=>?_⟩
  ·have:=hat hn0 hm0;rw[Nat.zero_mul,Nat.zero_add,ih.first]at this
   rw[this];simp[a3a,List.replicate_succ]
  ·obtain⟨q,i,hq,hi,hk,e1⟩:=hge (k:=k) oM;rw[e1]
   simp only[a2h]
   rw[hm]at hi
   by_cases hl:i+1<m
   ·have e2:=ih.step i (by rw[hm];exact hl);rw[e2]
    simp only[if_true]
    have h3:=hat hq hl;rw[show q * m+(i+1)=k+1 from oM,List.getElem?_eq_getElem h,List.getElem?_eq_getElem (by rw[hm];exact hl)]at h3
    rw[Option.some.inj h3]
   ·have hi1:i=m-1:=oM
    have e2:a2h l ((a1Q l)[i]'(by rw[hm];exact hi))=(a3a l.length,false):=by
     have:=ih.last oM
     simp only[hm]at this
     subst hi1;exact this
    rw[e2];rw[hlen]at h
    have hq1:q+1<n:=by
     rcases Nat.lt_or_ge (q+1) n with h1|h1
     ·exact h1
     ·have:n * m≤(q+1) * m:=Nat.mul_le_mul_right _ h1;rw[Nat.add_mul]at this;omega
    have h3:=hat hq1 hm0;rw[show (q+1) * m+0=k+1 by rw[Nat.add_mul];omega,List.getElem?_eq_getElem (by rw[hlen];exact h),ih.first]at h3
    rw[Option.some.inj h3];rw[if_neg (show ¬(false=true) by decide),if_pos oM]
    simp
  ·obtain⟨q,i,hq,hi,hk,e1⟩:=hge h;rw[e1];rw[hm]at hi
   rw[hlen]at hk
   have hqm:q+1=n:=by
    rcases Nat.lt_or_ge (q+1) n with h1|h1
    ·have h2:(q+2) * m≤n * m:=Nat.mul_le_mul_right _ h1;rw[Nat.add_mul]at h2;omega
    ·omega
   have hi1:i=m-1:=by
    subst hqm;rw[Nat.add_mul]at hk;omega
   have e2:a2h l ((a1Q l)[i]'(by rw[hm];exact hi))=(a3a l.length,false):=by
    have:=ih.last oM
    simp only[hm]at this
    subst hi1;exact this
   simp only[a2h]
   rw[e2,if_neg (show ¬(false=true) by decide),if_neg oM]
   simp[a3a,List.replicate_succ]
end Go.Sx
set_option linter.all false
namespace Go.Sx
open Go
theorem b4Q:∀{k:Nat} {l:List Rep} {t s:List Int},k≤l.length→k≤t.length→a2h (l.drop k) (t.drop k)=(s,true)→a2h l t=(t.take k++s,true)
 |0,l,t,s,_,_,h=>by simpa using h
 |k+1,[],t,s,h1,_,_=>by simp at h1
 |k+1,r::l,[],s,_,h2,_=>by simp at h2
 |k+1,r::l,x::t,s,h1,h2,h=>by
  have ih:=b4Q (k:=k) (l:=l) (t:=t) (s:=s) (by simpa using h1) (by simpa using h2) (by simpa using h)
  simp only[a2h,ih,if_true,List.take_succ_cons,List.cons_append]
section
variable {l:List Rep} {t m:List Int} {j:Nat}
theorem b4R (hj:0<j) (h1:j≤l.length) (h2:t.length=l.length) (h:a2h (l.drop j) (t.drop j)=(a3a (l.length-j),false)) :
  a2h (l.drop (j-1)) (t.drop (j-1))=if t[j-1]+1<chs l[j-1] then ((t[j-1]+1)::a3a (l.length-j),true) else (a3a (l.length-(j-1)),false):=by
 obtain⟨i,rfl⟩:∃i,j=i+1:=⟨j-1,oM⟩
 simp only[Nat.add_sub_cancel]
 rw[List.drop_eq_getElem_cons (show i<l.length from oM),List.drop_eq_getElem_cons (show i<t.length from oM)]
 simp only[a2h,h,Bool.false_eq_true,if_false]
 split
 ·rfl
 ·rw[show l.length-i=(l.length-(i+1))+1 by omega];simp[a3a,List.replicate_succ]
theorem d4D (hm:m=t.take j++a3a (l.length-j)) (hj:0<j) (h1:j≤l.length) (h2:t.length=l.length):∃h:j-1<m.length,m[j-1]=t[j-1]:=by
 subst hm;have h3:j-1<(t.take j).length:=by rw[List.length_take];omega
 exact⟨by rw[List.length_append];omega,by rw[List.getElem_append_left h3,List.getElem_take]⟩
theorem c2S (hm:m=t.take j++a3a (l.length-j)) (hj:0<j) (h1:j≤l.length) (h2:t.length=l.length) (x:Int):m.set (j-1) x=t.take (j-1)++x::a3a (l.length-j):=by
 subst hm;have h3:(t.take (j-1)).length=j-1:=by rw[List.length_take];omega
 have e:t.take j=t.take (j-1)++[t[j-1]]:=by
  have:=a0c (l:=t) (i:=j-1) oM;rw[show j-1+1=j by omega]at this
  exact this.symm
 rw[e,List.append_assoc,List.set_append_right _ _ oM,h3,Nat.sub_self];rfl
theorem b8w (hm:m=t.take j++a3a (l.length-j)) (hj:0<j) (h1:j≤l.length) (h2:t.length=l.length) (h:a2h (l.drop j) (t.drop j)=(a3a (l.length-j),false)) (hlt:t[j-1]+1<chs l[j-1]):a2h l t=(m.set (j-1) (t[j-1]+1),true):=by
 rw[c2S hm hj h1 h2];have:=b4R hj h1 h2 h;rw[if_pos hlt]at this
 exact b4Q oM oM this
theorem c2Y (hm:m=t.take j++a3a (l.length-j)) (hj:0<j) (h1:j≤l.length) (h2:t.length=l.length) (h:a2h (l.drop j) (t.drop j)=(a3a (l.length-j),false)) (hlt:¬t[j-1]+1<chs l[j-1]) :
  m.set (j-1) 0=t.take (j-1)++a3a (l.length-(j-1))∧a2h (l.drop (j-1)) (t.drop (j-1))=(a3a (l.length-(j-1)),false):=by
 have:=b4R hj h1 h2 h;rw[if_neg hlt]at this
 refine⟨?_,this⟩;rw[c2S hm hj h1 h2,show l.length-(j-1)=(l.length-j)+1 by omega];simp[a3a,List.replicate_succ]
end
structure Evy (c:List Kind) (l:List Rep) (most:Int) (k:Nat) (b:Bool) (ch:List Int) (out:List (List Int)):Prop where
 is:out=((a1Q l).take k).filter (isF c l)
 le:(out.length:Int)≤most
 at_:(b=true∧∃h:k<(a1Q l).length,ch=(a1Q l)[k])∨(b=false∧k=(a1Q l).length)
section
variable {c:List Kind} {l:List Rep} {most:Int} {k:Nat} {b:Bool} {ch:List Int} {out:List (List Int)}
theorem c3I (hp:∀r∈l,chs r≠0):∀r∈l,1≤chs r:=fun r hr=>by have:=hp r hr;have:=b0i r;omega
theorem Evy.start (hp:∀r∈l,chs r≠0) (h:1≤most):Evy c l most 0 true (a3a l.length) []:=by
 have hC:=b5O (c3I hp);refine⟨rfl,by simp;omega,.inl ⟨rfl,hC.pos,?_⟩⟩;have:=hC.first;rw[List.getElem?_eq_getElem hC.pos]at this
 exact (Option.some.inj this).symm
theorem Evy.mem (h:Evy c l most k true ch out):ch∈a1Q l:=by
 rcases h.at_ with ⟨_,h1,rfl⟩|⟨h1,_⟩
 ·exact List.getElem_mem h1
 ·cases h1
theorem Evy.lt (h:Evy c l most k true ch out):k<(a1Q l).length:=by
 rcases h.at_ with ⟨_,h1,_⟩|⟨h1,_⟩
 ·exact h1
 ·cases h1
theorem Evy.next_at (hp:∀r∈l,chs r≠0) (h:Evy c l most k true ch out):((a2h l ch).2=true∧∃h:k+1<(a1Q l).length,(a2h l ch).1=(a1Q l)[k+1])∨((a2h l ch).2=false∧k+1=(a1Q l).length):=by
 have hC:=b5O (c3I hp)
 rcases h.at_ with ⟨_,h1,rfl⟩|⟨h1,_⟩
 ·rcases Nat.lt_or_ge (k+1) (a1Q l).length with h2|h2
  ·have:=hC.step k h2;exact .inl ⟨by rw[this],h2,by rw[this]⟩
  ·obtain rfl:k=(a1Q l).length-1:=oM;have:=hC.last oM;exact .inr ⟨by rw[this],oM⟩
 ·cases h1
theorem Evy.yes (hp:∀r∈l,chs r≠0) (h:Evy c l most k true ch out) (hl:(out.length:Int)<most) (hi:isF c l ch=true):Evy c l most (k+1) (a2h l ch).2 (a2h l ch).1 (out++[ch]):=by
 refine⟨?_,by simp;omega,h.next_at hp⟩
 obtain⟨h1,rfl⟩:∃h:k<(a1Q l).length,ch=(a1Q l)[k]:=by
  rcases h.at_ with ⟨_,h1⟩|⟨h1,_⟩
  ·exact h1
  ·cases h1
 rw[←a0c h1,List.filter_append,h.is];simp[hi]
theorem Evy.no (hp:∀r∈l,chs r≠0) (h:Evy c l most k true ch out) (hi:isF c l ch=false):Evy c l most (k+1) (a2h l ch).2 (a2h l ch).1 out:=by
 refine⟨?_,h.le,h.next_at hp⟩
 obtain⟨h1,rfl⟩:∃h:k<(a1Q l).length,ch=(a1Q l)[k]:=by
  rcases h.at_ with ⟨_,h1⟩|⟨h1,_⟩
  ·exact h1
  ·cases h1
 rw[←a0c h1,List.filter_append,h.is];simp[hi]
theorem Evy.end_ (h:Evy c l most k b ch out) (hb:b=true→¬(out.length:Int)<most) (h1:1≤most):out=(a1S c l).take most.toNat:=by
 have hpre:out <+: a1S c l:=by
  rw[h.is];unfold a1S;exact (List.take_prefix _ _).filter _
 rcases h.at_ with ⟨rfl,_⟩|⟨rfl,rfl⟩
 ·have:=hb rfl;have:=h.le;have e:most.toNat=out.length:=oM;rw[e];exact (List.prefix_iff_eq_take.1 hpre)
 ·have e:out=a1S c l:=by rw[h.is,List.take_length];rfl
  rw[←e,List.take_of_length_le];have:=h.le
  omega
end
theorem b0W (l:List Rep) (ch:List Int):(a0J l ch).1.length≤l.length:=by
 rw[b2r]
 split
 ·exact c2f _ _ _
 ·simp
theorem b0X {l:List Rep} {ch:List Int} (hsl:∀r∈l,∀e∈r.options,SmE e):∀e∈(a0J l ch).1,SmE e:=fun e he=>by
 rw[b2r]at he
 split at he
 ·exact d4f hsl he
 ·cases he
section
variable {c:List Kind} {l:List Rep}
end
end Go.Sx
set_option linter.all false
namespace Go.Sx
open Go
def Plc.eqB (a b:Plc):Bool:=decide (a.into=b.into)&&(decide (a.slot=b.slot)&&true)
theorem Plc.eqB_eq (a b:Plc):Plc.eqB a b=decide (a=b):=by
 cases a;cases b;simp[Plc.eqB]
instance:Inhabited Plc:=⟨⟨a0M,a0M⟩⟩
theorem d4H (a b:List Nat):nI (a++b)=nI a++nI b:=by simp[nI]
theorem a7N {l:List Rep} {C:List Nat} {i:Nat} (hi:i<C.length) (h:C[i]<l.length):a5l l (C.take (i+1))=a5l l (C.take i)++[l[C[i]]]:=by
 rw[←a0c hi,b5e,a8I h];rfl
theorem d5K {α:Type} {lt:α→α→Bool} (hi:∀a,lt a a=false) (ht:∀a b c,lt a b=true→lt b c=true→lt a c=true) (h3:∀x y,lt y x=false→y≠x→lt x y=true):Sort.SWO lt:=by
 refine⟨hi,ht,fun x y z h1 h2=>?_⟩
 cases h4:lt x z with
 |false=>rfl
 |true=>
  by_cases e:x=y
  ·subst e;rw[h4]at h2;cases h2
  ·have h5:=ht _ _ _ (h3 y x h1 e) h4;rw[h5]at h2;cases h2
theorem c4k {α:Type} {cf:α→α→Int} {l l' m:List α} (h:c5p cf l m) (hp:l.Perm l'):c5p cf l' m:=⟨h.1.trans hp,h.2⟩
theorem KeysG.len {κ:Type} [DecidableEq κ] {kvs:List (κ×Value)} {L:List κ} (h:KeysG kvs L):kvs.length≤L.length:=by
 have h1:(kvs.map Prod.fst).length≤L.length:=List.Nodup.length_le_of_subset h.1 fun x hx=>(h.2 x).1 hx
 simpa using h1
section
variable {κ:Type} {pre:List κ} {todo a b kvs:List (κ×Value)} {e:κ×Value}
theorem b9Z (hP:(pre++todo.map Prod.fst).Perm (kvs.map Prod.fst)) (h:todo=a++e::b):((pre++[e.1])++(a++b).map Prod.fst).Perm (kvs.map Prod.fst):=by
 subst h;refine List.Perm.trans ?_ hP;rw[List.append_assoc];refine List.Perm.append_left _ ?_
 simp only[List.map_append,List.map_cons,List.singleton_append]
 exact List.perm_middle.symm
theorem c6y (hP:(pre++todo.map Prod.fst).Perm (kvs.map Prod.fst)) (h:todo=a++e::b):pre.length<kvs.length:=by
 subst h;have:=hP.length_eq
 simp at this
 omega
end
theorem a6j {I:IMap} (l:List ByteArray):Flat I (l.map Value.string) l:=by
 induction l with
 |nil=>exact .nil
 |cons x l ih=>exact .cons rfl ih
section
variable {c:List Kind} {own:List Rep} {p:ByteArray} {day:Int} {all:List (List Int)} {i:Nat}
end
section
variable {s:List Part} {q:ByteArray} {i:Nat} {y z:ByteArray}
theorem c4a (hi:i<s.length) (h:(a0e s q).isSome=false):rootGo s (s.length-i) q=a0M:=by
 obtain⟨n,hn⟩:∃n,s.length-i=n+1:=⟨s.length-i-1,oM⟩;rw[hn];unfold rootGo
 cases hf:a0e s q with
 |none=>rfl
 |some x=>rw[hf]at h;cases h
theorem c3Y (hi:i<s.length) (h:(a0e s q).isSome=true) (h2:((a0e s q).getD zPart).into=a0M):rootGo s (s.length-i) q=q:=by
 obtain⟨n,hn⟩:∃n,s.length-i=n+1:=⟨s.length-i-1,oM⟩;rw[hn];unfold rootGo
 cases hf:a0e s q with
 |none=>rw[hf]at h;cases h
 |some x=>rw[hf]at h2;exact if_pos h2
theorem c3Z (hi:i<s.length) (h:(a0e s q).isSome=true) (h2:¬((a0e s q).getD zPart).into=a0M):rootGo s (s.length-i) q=rootGo s (s.length-(i+1)) ((a0e s q).getD zPart).into:=by
 obtain⟨n,hn⟩:∃n,s.length-i=n+1:=⟨s.length-i-1,oM⟩;rw[hn,show s.length-(i+1)=n by omega]
 conv=>lhs;unfold rootGo
 cases hf:a0e s q with
 |none=>rw[hf]at h;cases h
 |some x=>rw[hf]at h2;exact if_neg h2
end
end Go.Sx
set_option linter.all false
namespace Go.Sx
open Go
structure Flt where
 kind:Int
 part:ByteArray
 name:ByteArray
 deriving DecidableEq
def Flt.cells (x:Flt):List Value:=[ci x.kind,.string x.part,.string x.name]
instance:Enc Flt where
 k:=3
 rd _ vs x:=vs=x.cells
 len h:=by rw[h];rfl
 mono _ h:=h
 one h:=by rw[h];rfl
def Flt.eqB (a b:Flt):Bool:=decide (a.kind=b.kind)&&(decide (a.part=b.part)&&(decide (a.name=b.name)&&true))
theorem Flt.eqB_eq (a b:Flt):Flt.eqB a b=decide (a=b):=by
 cases a;cases b;simp[Flt.eqB]
instance:Inhabited Flt:=⟨⟨0,a0M,a0M⟩⟩
def a3W (x:Flt):Value:=.agg x.cells.toArray
theorem c6i {I:IMap} (l:List Flt):Flat I (l.flatMap Flt.cells) l:=by
 induction l with
 |nil=>exact .nil
 |cons x l ih=>rw[List.flatMap_cons];exact .cons rfl ih
theorem c6A (x:Xp):x.kids.length≤cntX x:=by
 have h:∀ks:List Xp,ks.length≤cntXL ks:=fun ks=>by
  induction ks with
  |nil=>exact Nat.zero_le _
  |cons k ks ih=>
   have:1≤cntX k:=by cases k;simp[cntX]
   simp only[List.length_cons,cntXL];omega
 obtain⟨op,nm,vl,n,e,ks⟩:=x;have:=h ks
 simp only[cntX]
 show ks.length≤_;omega
theorem c6m {x:Xp} {a k:ByteArray} (h:a5G ⟨a,k,x⟩=true):allX a4w x=true∧cntX x≤60:=by
 simp only[a5G,b2F,Bool.and_eq_true,decide_eq_true_eq]at h
 have h1:=d2r x;exact⟨h.2.2,by have:=h.2.1;omega⟩
def d4W (a b:Flt):Bool:=sLt a.part b.part||(decide (a.part=b.part)&&sLt a.name b.name)
def a4o (a b:Flt):Bool:=decide (a.kind<b.kind)||(decide (a.kind=b.kind)&&d4W a b)
theorem a5W (a:Flt):a4o a a=false:=by simp[a4o,d4W,a1K]
theorem a5v (a b c:Flt) (h1:a4o a b=true) (h2:a4o b c=true):a4o a c=true:=by
 simp only[a4o,d4W,Bool.or_eq_true,Bool.and_eq_true,decide_eq_true_eq]at *
 rcases h1 with h1|⟨e1,h1⟩
 ·rcases h2 with h2|⟨e2,h2⟩
  ·exact .inl oM
  ·exact .inl oM
 ·rcases h2 with h2|⟨e2,h2⟩
  ·exact .inl oM
  ·refine .inr ⟨oM,?_⟩
   rcases h1 with h1|⟨e3,h1⟩
   ·rcases h2 with h2|⟨e4,h2⟩
    ·exact .inl (a2B h1 h2)
    ·exact .inl (e4▸h1)
   ·rcases h2 with h2|⟨e4,h2⟩
    ·exact .inl (e3▸h2)
    ·exact .inr ⟨e3.trans e4,a2B h1 h2⟩
theorem b0v {x y:Flt} (h:a4o y x=false) (hn:y≠x):a4o x y=true:=by
 simp only[a4o,d4W,Bool.or_eq_false_iff,Bool.and_eq_false_iff,decide_eq_false_iff_not,Bool.or_eq_true,Bool.and_eq_true,decide_eq_true_eq]at *
 obtain⟨h1,h2⟩:=h
 by_cases hk:x.kind<y.kind
 ·exact .inl hk
 ·have ek:y.kind=x.kind:=oM;refine .inr ⟨ek.symm,?_⟩;obtain⟨h3,h4⟩:=h2.resolve_left fun h=>h ek
  by_cases ep:y.part=x.part
  ·refine .inr ⟨ep.symm,b8T (h4.resolve_left fun h=>h ep) fun en=>hn ?_⟩
   cases x;cases y;simp_all
  ·exact .inl (b8T h3 ep)
def a8q (a b:Flt):Int:=orI [a9t a.kind b.kind,a9u a.part b.part,a9u a.name b.name]
theorem b7A {a b:Flt}:a8q a b<0↔a4o a b=true:=by
 have h1:a8q a b=if a9t a.kind b.kind=0 then (if a9u a.part b.part=0 then (if a9u a.name b.name=0 then 0 else a9u a.name b.name) else a9u a.part b.part) else a9t a.kind b.kind:=by
  unfold a8q orI orI orI orI
  simp only[ne_eq,ite_not]
 have hI:(a9t a.kind b.kind<0↔a.kind<b.kind)∧(a9t a.kind b.kind=0↔a.kind=b.kind):=by
  unfold a9t;constructor<;>(split<;>(try split)<;>omega)
 rw[h1];unfold a4o d4W;rw[Bool.or_eq_true,Bool.and_eq_true,Bool.or_eq_true,Bool.and_eq_true,decide_eq_true_eq,decide_eq_true_eq,decide_eq_true_eq,←a6n,←a6n]
 by_cases h:a9t a.kind b.kind=0
 ·rw[if_pos h];have e:=hI.2.1 h
  by_cases h2:a9u a.part b.part=0
  ·rw[if_pos h2];have e2:=a7j.1 h2
   by_cases h3:a9u a.name b.name=0
   ·rw[if_pos h3];omega
   ·rw[if_neg h3]
    constructor
    ·exact fun h4=>.inr ⟨e,.inr ⟨e2,h4⟩⟩
    ·rintro (h4|⟨_,h4|h4⟩)
     ·omega
     ·omega
     ·exact h4.2
  ·rw[if_neg h2];have e2:¬a.part=b.part:=fun e=>h2 (a7j.2 e)
   constructor
   ·exact fun h4=>.inr ⟨e,.inl h4⟩
   ·rintro (h4|⟨_,h4|h4⟩)
    ·omega
    ·exact h4
    ·exact absurd h4.1 e2
 ·rw[if_neg h,hI.1];have e:¬a.kind=b.kind:=fun e=>h (hI.2.2 e)
  constructor
  ·exact .inl
  ·rintro (h3|h3)
   ·exact h3
   ·exact absurd h3.1 e
theorem c6J:Proofs.ltOf a8q=a4o:=by
 funext a b
 rw[Bool.eq_iff_iff]
 simp only[Proofs.ltOf,decide_eq_true_eq]
 exact b7A
theorem d0G:Sort.SWO (Proofs.ltOf a8q):=by rw[c6J];exact d5K a5W a5v fun x y h hn=>b0v h hn
theorem c8j {l m:List Flt} (h:c5p a8q l m) (hn:l.Nodup):SrtU a4o m:=by
 have h1:m.Nodup:=(h.1.nodup_iff).2 hn;have h2:=List.nodup_iff_pairwise_ne.1 h1;refine List.Pairwise.imp₂ (fun a b hab hne=>?_) h.2 h2
 cases h3:a4o b a with
 |true=>exact absurd (b7A.2 h3) hab
 |false=>exact b0v h3 fun e=>hne e.symm
theorem a8N (l:List Flt):SrtU a4o (c0K a4o l):=b8Y a5v fun x _ y _ h hn=>b0v h hn
theorem b5t {kvs:List (Flt×Value)} {L m:List Flt} (hK:KeysG kvs L) (h:c5p a8q (kvs.map Prod.fst) m):m=c0K a4o L:=
 SrtU.uniq a5W a5v (c8j h hK.1) (a8N L) fun z=>by rw[h.1.mem_iff,hK.2,a8a]
theorem c8h {l m:List Flt} (h:∀z,z∈l↔z∈m):c0K a4o l=c0K a4o m:=
 SrtU.uniq a5W a5v (a8N l) (a8N m) fun z=>by rw[a8a,a8a,h]
def a8n (kvs:List (Flt×Value)) (ks:List Flt):List (Flt×Value):=ks.foldl (fun k x=>a4I k x (.bool true)) kvs
theorem a6z (kvs:List (Flt×Value)) (a b:List Flt):a8n (a8n kvs a) b=a8n kvs (a++b):=by unfold a8n;rw[List.foldl_append]
theorem a6d:∀(ks:List Flt) {kvs:List (Flt×Value)} {L:List Flt},KeysG kvs L→KeysG (a8n kvs ks) (L++ks)
 | [],kvs,L,h=>by rw[List.append_nil];exact h
 |x::ks,kvs,L,h=>by
  have:=a6d ks (h.put (x:=x) (v:=.bool true));rw[List.append_assoc]at this;exact this
theorem c3Q {kvs:List (Flt×Value)} {ns:List ByteArray} {f:ByteArray→Flt} {i:Nat} (h:i<ns.length):a4I (a8n kvs ((ns.take i).map f)) (f ns[i]) (.bool true)=a8n kvs ((ns.take (i+1)).map f):=by
 unfold a8n;rw[←a0c h,List.map_append,List.foldl_append];rfl
theorem c5w (s:Int) (l:List Int):(l.any fun x=>decide (s=x))=decide (s∈l):=by
 rw[Bool.eq_iff_iff,List.any_eq_true,decide_eq_true_eq];exact⟨fun ⟨x,h1,h2⟩=>by rw[of_decide_eq_true h2];exact h1,fun h=>⟨s,h,by simp⟩⟩
structure Hld where
 id:ByteArray
 vehicle:ByteArray
 members:List Int
 back:List Int
def Hld.cs (x:Hld) (a b:Value):List Value:=[.string x.id,.string x.vehicle,a,b]
instance:Enc Hld where
 k:=4
 rd I vs x:=∃a b,vs=x.cs a b∧RdS I a x.members∧RdS I b x.back
 len h:=by obtain⟨_,_,rfl,_⟩:=h;rfl
 mono hI h:=by obtain⟨a,b,rfl,h1,h2⟩:=h;exact⟨a,b,rfl,h1.le hI,h2.le hI⟩
 one h:=by obtain⟨a,b,rfl,⟨A,c,rfl,_⟩,⟨B,d,rfl,_⟩⟩:=h;rfl
structure Bok where
 rules:List Rul
 subs:List Sbu
 duties:List Dut
 conc:List Cnc
 recalls:List Rul
 holds:List Hld
structure BokRd (I:IMap) (v0 v1 v2 v3 v4 v5:Value) (b:Bok):Prop where
 r0:RdS I v0 b.rules
 r1:RdS I v1 b.subs
 r2:RdS I v2 b.duties
 r3:RdS I v3 b.conc
 r4:RdS I v4 b.recalls
 r5:RdS I v5 b.holds
theorem BokRd.le {I I':IMap} {v0 v1 v2 v3 v4 v5:Value} {b:Bok} (h:BokRd I v0 v1 v2 v3 v4 v5 b) (hI:ILe I I'):BokRd I' v0 v1 v2 v3 v4 v5 b:=⟨h.r0.le hI,h.r1.le hI,h.r2.le hI,h.r3.le hI,h.r4.le hI,h.r5.le hI⟩
theorem BokRd.one {I:IMap} {v0 v1 v2 v3 v4 v5:Value} {b:Bok} (h:BokRd I v0 v1 v2 v3 v4 v5 b):[v0,v1,v2,v3,v4,v5].all (·.oneCell')=true:=by
 simp[h.r0.one,h.r1.one,h.r2.one,h.r3.one,h.r4.one,h.r5.one]
instance:Enc Bok where
 k:=6
 rd I vs b:=∃v0 v1 v2 v3 v4 v5,vs=[v0,v1,v2,v3,v4,v5]∧BokRd I v0 v1 v2 v3 v4 v5 b
 len h:=by obtain⟨_,_,_,_,_,_,rfl,_⟩:=h;rfl
 mono hI h:=by obtain⟨a,b,c,d,e,f,rfl,h⟩:=h;exact⟨a,b,c,d,e,f,rfl,h.le hI⟩
 one h:=by obtain⟨_,_,_,_,_,_,rfl,h⟩:=h;exact h.one
structure OkBok (b:Bok):Prop where
 rules:∀r∈b.rules,b2J r
 recalls:∀r∈b.recalls,b2J r
 duties:∀d∈b.duties,SmD d
 r100:b.rules.length≤100
 c100:b.recalls.length≤100
 d100:b.duties.length≤100
 h100:b.holds.length≤100
theorem OkBok.dl {b:Bok} (h:OkBok b):b.duties.length≤1000000:=Nat.le_trans h.d100 oM
def c3A (h:Hld):Bool:=h.members.any fun m=>!decide (m∈h.back)
def a4Y (b:Bok) (s:List Part) (day:Int) (p:Part) (r:Rul):Bool:=(decide (r.kind=p.kind) && !b6b b.conc p.name r.name day) && !decide (a8Y s r.cond p.name day=2)
def a7P (s:List Part) (day:Int) (p:Part) (r:Rul):Bool:=decide (r.kind=p.kind) && !decide (a8Y s r.cond p.name day=0)
def a3F (b:Bok) (s:List Part) (day:Int) (p:Part) (l:List Rul):List Flt:=(l.filter (a4Y b s day p)).map fun r=>⟨1,p.name,r.name⟩
def a6b (s:List Part) (day:Int) (p:Part) (l:List Rul):List Flt:=(l.filter (a7P s day p)).map fun r=>⟨5,p.name,r.name⟩
def a7I (b:Bok) (c:List Kind) (l:List Evt) (day:Int) (p:Part):List Flt:=(b3q b.duties c l p.name day).map fun n=>⟨3,p.name,n⟩
def b2n (b:Bok) (c:List Kind) (s:List Part) (day:Int) (p:Part):List Flt:=if a9o c b.subs s p.name day=false then [⟨2,p.name,p.slot⟩] else []
def a1Y (b:Bok) (c:List Kind) (l:List Evt) (s:List Part) (day:Int) (p:Part):List Flt:=a3F b s day p b.rules++a6b s day p b.recalls++a7I b c l day p++b2n b c s day p
def a2W (v:ByteArray) (l:List Hld):List Flt:=(l.filter fun h=>decide (h.vehicle=v)&&c3A h).map fun h=>⟨6,v,h.id⟩
section
variable {b:Bok} {s:List Part} {day:Int} {p:Part} {l:List Rul} {i:Nat} {v:ByteArray} {hl:List Hld} {kvs:List (Flt×Value)}
theorem b6D (h:i<l.length) (hb:a4Y b s day p l[i]=true):a3F b s day p (l.take (i+1))=a3F b s day p (l.take i)++[⟨1,p.name,l[i].name⟩]:=by
 unfold a3F;rw[←a0c h,List.filter_append];simp[hb]
theorem a8D (h:i<l.length) (hb:a4Y b s day p l[i]=false):a3F b s day p (l.take (i+1))=a3F b s day p (l.take i):=by
 unfold a3F;rw[←a0c h,List.filter_append];simp[hb]
theorem c0j (h:i<l.length) (hb:a7P s day p l[i]=true):a6b s day p (l.take (i+1))=a6b s day p (l.take i)++[⟨5,p.name,l[i].name⟩]:=by
 unfold a6b;rw[←a0c h,List.filter_append];simp[hb]
theorem b4W (h:i<l.length) (hb:a7P s day p l[i]=false):a6b s day p (l.take (i+1))=a6b s day p (l.take i):=by
 unfold a6b;rw[←a0c h,List.filter_append];simp[hb]
theorem b6C (h:i<hl.length) (hb:(decide (hl[i].vehicle=v)&&c3A hl[i])=true):a2W v (hl.take (i+1))=a2W v (hl.take i)++[⟨6,v,hl[i].id⟩]:=by
 unfold a2W;rw[←a0c h,List.filter_append,List.filter_cons,if_pos hb];simp
theorem b2l (h:i<hl.length) (hb:(decide (hl[i].vehicle=v)&&c3A hl[i])=false):a2W v (hl.take (i+1))=a2W v (hl.take i):=by
 unfold a2W;rw[←a0c h,List.filter_append,List.filter_cons,if_neg (by rw[hb];decide)];simp
end
theorem c6D (ds:List Dut) (c:List Kind) (l:List Evt) (p:ByteArray) (day:Int):(b3q ds c l p day).length≤ds.length:=by
 unfold b3q;refine Nat.le_trans (c8k _) ?_;rw[List.length_map];exact Nat.le_trans (List.length_filter_le _ _) (b5d ds c l p day)
theorem b2m {b:Bok} (h:OkBok b) (c:List Kind) (l:List Evt) (s:List Part) (day:Int) (p:Part):(a1Y b c l s day p).length≤301:=by
 have h1:(a3F b s day p b.rules).length≤100:=by unfold a3F;rw[List.length_map];exact Nat.le_trans (List.length_filter_le _ _) h.r100
 have h2:(a6b s day p b.recalls).length≤100:=by unfold a6b;rw[List.length_map];exact Nat.le_trans (List.length_filter_le _ _) h.c100
 have h3:(a7I b c l day p).length≤100:=by unfold a7I;rw[List.length_map];exact Nat.le_trans (c6D _ _ _ _ _) h.d100
 have h4:(b2n b c s day p).length≤1:=by unfold b2n;split<;>simp
 unfold a1Y
 simp only[List.length_append];omega
theorem d4y {b:Bok} {kvs:List (Flt×Value)} {c:List Kind} {l:List Evt} {s:List Part} {day:Int} {p:Part} {ns:List ByteArray} {g:ByteArray→Part} {v:ByteArray} (hok:OkBok b) (hn:ns.length≤12)
  (h:KeysG kvs ((([]++a1Y b c l s day p)++ns.flatMap fun n=>a1Y b c l s day (g n))++a2W v b.holds)):kvs.length≤1000000:=by
 have h0:=h.len;have h1:=b2m hok c l s day p
 have h2:∀ns:List ByteArray,(ns.flatMap fun n=>a1Y b c l s day (g n)).length≤ns.length * 301:=fun ns=>by
  induction ns with
  |nil=>simp
  |cons x ns ih=>
   have:=b2m hok c l s day (g x)
   simp only[List.flatMap_cons,List.length_append,List.length_cons,Nat.add_mul];omega
 have h3:=h2 ns;have h4:(a2W v b.holds).length≤100:=by unfold a2W;rw[List.length_map];exact Nat.le_trans (List.length_filter_le _ _) hok.h100
 simp only[List.length_append,List.length_nil]at h0
 have h5:ns.length * 301≤12 * 301:=Nat.mul_le_mul_right _ hn
 omega
theorem c8i (x:Flt):c0K a4o [x]=[x]:=rfl
def c5j (c:List Kind) (s:List Part) (err:Int) (v:ByteArray):Bool:=
 ((!decide (err=0) || !(a0e s v).isSome)||((a0e s v).getD zPart).scrapped) || !((a8v c ((a0e s v).getD zPart).kind).getD b3S).vehicle
noncomputable def ofF (f:Fm) (c:List Kind) (b:Bok) (l:List Evt) (v:ByteArray) (day:Int):List Flt:=
 if c5j c (runL f c l day).1 (runL f c l day).2.2 v=true then [⟨4,v,⟨#[]⟩⟩]
 else c0K a4o (a1Y b c l (runL f c l day).1 day ((a0e (runL f c l day).1 v).getD zPart)++(d0P (runL f c l day).1 v).flatMap (fun n=>a1Y b c l (runL f c l day).1 day ((a0e (runL f c l day).1 n).getD zPart))++a2W v b.holds)
end Go.Sx
set_option linter.all false
namespace Go.Sx
open Go
def a8F (r:Rep):Bool:=!decide (chs r=1)
def b3V (r:Rep):Int:=if a8F r=true then -1 else 0
def c0Y (l:List Rep):Int:=(((l.filter a8F).length:Nat):Int)
def b4e (l:List Rep) (i:Nat):List Int:=(l.take i).map b3V++List.replicate (l.length-i) 0
section
variable {l:List Rep} {i:Nat}
theorem b2M (hi:i≤l.length):(b4e l i).length=l.length:=by
 unfold b4e;rw[List.length_append,List.length_map,List.length_take,List.length_replicate,Nat.min_eq_left hi];omega
theorem b7w:b4e l l.length=l.map b3V:=by simp[b4e]
theorem b4f (h:i<l.length):b4e l (i+1)=(b4e l i).set i (b3V l[i]):=by
 unfold b4e;have e:l.length-i=(l.length-(i+1))+1:=oM;rw[e,List.replicate_succ,←a0c h,List.map_append,List.append_assoc,List.set_append_right _ _ (by rw[List.length_map,List.length_take];omega)];rw[List.length_map,List.length_take,Nat.min_eq_left oM,Nat.sub_self];rfl
theorem c9L (h:i<l.length):(b4e l i)[i]? = some 0:=by
 unfold b4e;rw[List.getElem?_append_right (by rw[List.length_map,List.length_take];omega),List.length_map,List.length_take,Nat.min_eq_left oM,Nat.sub_self,List.getElem?_replicate,if_pos oM]
theorem b7x (h:i<l.length) (hc:a8F l[i]=true):b4e l (i+1)=(b4e l i).set i (-1):=by rw[b4f h,b3V,if_pos hc]
theorem c1l (h:i<l.length) (hc:a8F l[i]=false):b4e l (i+1)=b4e l i:=by
 rw[b4f h,b3V,if_neg (by rw[hc];decide)];refine List.ext_getElem? fun j=>?_
 rw[List.getElem?_set]
 split
 ·rename_i e;subst e;rw[c9L h];split
  ·rfl
  ·rename_i hh;exact absurd (by rw[b2M oM];exact h) hh
 ·rfl
theorem d1y (h:i<l.length) (hc:a8F l[i]=true):c0Y (l.take (i+1))=c0Y (l.take i)+1:=by
 unfold c0Y;rw[←a0c h,List.filter_append,List.length_append,List.filter_cons,if_pos hc];simp
theorem d4L (h:i<l.length) (hc:a8F l[i]=false):c0Y (l.take (i+1))=c0Y (l.take i):=by
 unfold c0Y;rw[←a0c h,List.filter_append,List.length_append,List.filter_cons,if_neg (by rw[hc];decide)];simp
theorem c9i:0≤c0Y (l.take i)∧c0Y (l.take i)≤i:=by
 unfold c0Y;have h1:=List.length_filter_le a8F (l.take i);have h2:=List.length_take_le i l
 omega
end
def d3h (r:Rep) (n:Nat):Int:=(r.options.take n).foldl (fun m e=>min m e.day) 40000
theorem c1L {r:Rep} {n:Nat} (h:n<r.options.length):d3h r (n+1)=min (d3h r n) r.options[n].day:=by
 unfold d3h;rw[←a0c h,List.foldl_append];rfl
def b9D (r:Rep):Int:=d3h r r.options.length
def b1M (l:List Rep) (ch:List Int) (a:Int) (i:Nat):Int:=
 if decide (ch.getD i 0<0)=true∧(decide (a<0)||decide (b9D (l.getD i ⟨[],false⟩)<b9D (l.getD a.toNat ⟨[],false⟩)))=true then (i:Int) else a
def a7b (l:List Rep) (ch:List Int):Nat→Int
 |0=>-1
 |i+1=>b1M l ch (a7b l ch i) i
def a1C (l:List Rep) (ch:List Int):Int:=a7b l ch ch.length
theorem c4h (l:List Rep) (ch:List Int):a7b l ch 0 = -1:=rfl
theorem a7Z (l:List Rep) (ch:List Int) (i:Nat):a7b l ch (i+1)=b1M l ch (a7b l ch i) i:=rfl
theorem c8e {l:List Rep} {ch:List Int} {a:Int} {i:Nat} (h : -1≤a∧a<i∧(0≤a→ch.getD a.toNat 0<0)) : -1≤b1M l ch a i∧b1M l ch a i<(i+1:Nat)∧(0≤b1M l ch a i→ch.getD (b1M l ch a i).toNat 0<0):=by
 unfold b1M
 by_cases c:(decide (ch.getD i 0<0)=true∧(decide (a<0)||decide (b9D (l.getD i ⟨[],false⟩)<b9D (l.getD a.toNat ⟨[],false⟩)))=true)
 ·rw[if_pos c];exact⟨oM,oM,fun _=>by simpa using c.1⟩
 ·rw[if_neg c];exact⟨h.1,oM,h.2.2⟩
theorem b7b (l:List Rep) (ch:List Int) (i:Nat) : -1≤a7b l ch i∧a7b l ch i<(i:Nat)∧(0≤a7b l ch i→ch.getD (a7b l ch i).toNat 0<0):=by
 induction i with
 |zero=>rw[c4h];exact⟨oM,oM,fun h=>absurd h oM⟩
 |succ i ih=>rw[a7Z];exact c8e ih
section
variable {l:List Rep} {ch:List Int} {i:Nat}
theorem a5E (hlt:i<l.length):l.getD i ⟨[],false⟩=l[i]:=by rw[List.getD_eq_getElem?_getD,List.getElem?_eq_getElem hlt];rfl
theorem b7c (hlt:i<ch.length):ch.getD i 0=ch[i]:=by rw[List.getD_eq_getElem?_getD,List.getElem?_eq_getElem hlt];rfl
theorem d5H {hlt:i<l.length} {hlc:i<ch.length} (h:(decide (ch[i]<0)&&(decide (a7b l ch i<0)||decide (b9D l[i]<b9D (l.getD (a7b l ch i).toNat ⟨[],false⟩))))=true):a7b l ch (i+1)=i:=by
 rw[Bool.and_eq_true]at h
 rw[a7Z,b1M,a5E hlt,b7c hlc,if_pos h]
theorem d7Y {hlt:i<l.length} {hlc:i<ch.length} (h:(decide (ch[i]<0)&&(decide (a7b l ch i<0)||decide (b9D l[i]<b9D (l.getD (a7b l ch i).toNat ⟨[],false⟩))))=false):a7b l ch (i+1)=a7b l ch i:=by
 rw[a7Z,b1M,a5E hlt,b7c hlc,if_neg (fun hh=>by rw[←Bool.and_eq_true,h]at hh;exact Bool.false_ne_true hh)]
theorem d6K (h:decide (a7b l ch i<0)=false) (hi:i≤l.length):(a7b l ch i).toNat<l.length∧a7b l ch i=((a7b l ch i).toNat:Nat):=by
 have:=b7b l ch i;rw[decide_eq_false_iff_not]at h
 omega
end
def b1G (ch:List Int):List (List Value):=ch.map fun x=>[ci x]
theorem c6p (ch:List Int):Uk 1 (b1G ch):=fun c hc=>by obtain⟨e,_,rfl⟩:=List.mem_map.1 hc;rfl
theorem a7v (ch:List Int):(b1G ch).length=ch.length:=by simp[b1G]
theorem b9X (ch:List Int):(b1G ch).flatten=a2p ch:=by
 induction ch with
 |nil=>rfl
 |cons x l ih=>show [ci x]++(b1G l).flatten=_;rw[ih];try rfl
theorem c6o {I:IMap} {xss:List (List Value)} {l:List Int} (h:FlatC I xss l):xss=b1G l:=by
 induction h with
 |nil=>rfl
 |cons h1 _ ih=>rw[ih];simp only[b1G,List.map_cons];rw[show _=_ from h1]
theorem b9W {ch:List Int} {z:List (List Value)} (h:z.length=ch.length):(z.take 0++(b1G ch++z.drop (0+(b1G ch).length))).flatten=a2p ch:=by
 rw[a7v,Nat.zero_add,List.drop_eq_nil_of_le oM,List.append_nil,List.take_zero,List.nil_append,b9X]
def a2i (c:List Kind) (l:List Rep):Nat→List Int→Fm
 |0,ch=>if a1B c l ch=true then .mk 2 0 [] else .mk 3 0 []
 |n+1,ch=>if a1B c l ch=true then .mk 2 0 [] else
  if a1C l ch<0 then .mk 3 0 [] else
  .mk 1 (a1C l ch) ((List.range (chs (l.getD (a1C l ch).toNat ⟨[],false⟩)).toNat:List Nat).map fun k:Nat=>a2i c l n (ch.set (a1C l ch).toNat (k:Int)))
end Go.Sx
set_option linter.all false
namespace Go.Sx
open Go
def a9m (ch:List Int):Nat:=(ch.filter fun x=>decide (x<0)).length
theorem a5y:∀{ch:List Int} {a:Nat} {k:Int},(h:a<ch.length)→ch[a]<0→0≤k→a9m (ch.set a k)+1=a9m ch
 |x::ch,0,k,h,h1,h2=>by
  have h1':x<0:=h1
  show a9m (k::ch)+1=a9m (x::ch)
  unfold a9m;rw[List.filter_cons_of_neg (by simp;omega),List.filter_cons_of_pos (by simpa using h1')];rfl
 |x::ch,a+1,k,h,h1,h2=>by
  have ih:=a5y (ch:=ch) (a:=a) (k:=k) (by simpa using h) (by simpa using h1) h2
  show a9m (x::ch.set a k)+1=a9m (x::ch)
  unfold a9m at ih ⊢
  by_cases hx:x<0
  ·rw[List.filter_cons_of_pos (by simpa using hx),List.filter_cons_of_pos (by simpa using hx),List.length_cons,List.length_cons,ih]
  ·rw[List.filter_cons_of_neg (by simpa using hx),List.filter_cons_of_neg (by simpa using hx),ih]
theorem c6N {ch:List Int} {a:Nat} (h:a9m ch=0) (ha:a<ch.length):¬ch[a]<0:=fun hh=>by
 have:ch[a]∈ch.filter fun x=>decide (x<0):=List.mem_filter.2 ⟨List.getElem_mem ha,by simpa using hh⟩
 rw[List.eq_nil_of_length_eq_zero h]at this;cases this
section
variable {c:List Kind} {l:List Rep} {ch:List Int} {n a:Nat}
def a2w (c:List Kind) (l:List Rep) (n:Nat) (ch:List Int) (a:Nat):List Fm:=(List.range (chs (l.getD a ⟨[],false⟩)).toNat).map fun k:Nat=>a2i c l n (ch.set a (k:Int))
theorem b8X (h:¬a1C l ch<0) (hlc:ch.length=l.length):∃a:Nat,a1C l ch=a∧∃(ha:a<l.length) (hb:a<ch.length),ch[a]<0:=by
 have h1:=b7b l ch ch.length;refine⟨(a1C l ch).toNat,by unfold a1C at *;omega,by unfold a1C at *;omega,by unfold a1C at *;omega,?_⟩;have h2:=h1.2.2 (by unfold a1C at h;omega);rw[b7c (by unfold a1C at *;omega)]at h2
 exact h2
theorem a3e (h:a1B c l ch=true):a2i c l n ch = .mk 2 0 []:=by cases n<;>(unfold a2i;rw[if_pos h])
theorem a3f (h:a1B c l ch=false) (h2:a1C l ch<0):a2i c l n ch = .mk 3 0 []:=by
 cases n with
 |zero=>unfold a2i;rw[if_neg (by rw[h];decide)]
 |succ n=>unfold a2i;rw[if_neg (by rw[h];decide),if_pos h2]
theorem a2s (h:a1B c l ch=false) (h2:a1C l ch=(a:Nat)):a2i c l (n+1) ch = .mk 1 (a:Int) (a2w c l n ch a):=by
 conv=>lhs;unfold a2i
 rw[if_neg (by rw[h];decide),if_neg oM,h2];rfl
theorem a7z (hs:0≤chs (l.getD a ⟨[],false⟩)):((a2w c l n ch a).length:Int)=chs (l.getD a ⟨[],false⟩):=by
 unfold a2w;rw[List.length_map,List.length_range];omega
theorem a2D {k:Nat} (hk:k<(a2w c l n ch a).length):(a2w c l n ch a)[k]=a2i c l n (ch.set a (k:Int)):=by simp[a2w]
theorem b0k (x y:List Fm):cntNL (x++y)=cntNL x+cntNL y:=by
 induction x with
 |nil=>simp[cntNL]
 |cons f x ih=>simp only[List.cons_append,cntNL,ih];omega
theorem a4t {ks:List Fm} {k:Nat} (hk:k<ks.length):cntNL (ks.take (k+1))=cntNL (ks.take k)+cntN ks[k]:=by
 rw[←a0c hk,b0k];simp[cntNL]
theorem b7D {ks:List Fm} {k:Nat} (hk:k<ks.length):cntNL (ks.take k)+cntN ks[k]≤cntNL ks:=by
 rw[←a4t hk];have:=b0k (ks.take (k+1)) (ks.drop (k+1));rw[List.take_append_drop]at this;omega
theorem b4l {o m:Int}:((cntN (.mk o m []):Nat):Int)=1:=by simp[cntN,cntNL]
theorem c5D (f:Fm):1≤cntN f:=by cases f;simp[cntN]
theorem c3c {m:Int} {k:Nat}:m-1-(k:Int)=m-((k+1:Nat):Int):=oM
theorem b9y {ks:List Fm} {m:Int}:m-((cntNL (List.take 0 ks):Nat):Int)=m:=by simp[cntNL]
theorem a7H {m:Int} {x y:Nat}:m-1-((x+y:Nat):Int)=m-1-(x:Int)-(y:Int):=oM
theorem b2Q {o m:Int} {ks:List Fm}:cntN (.mk o m ks)=cntNL ks+1:=by simp[cntN]
end
end Go.Sx
set_option linter.all false
namespace Go.Sx
open Go
mutual
def wmS {σ:Type} (out:σ→Fm→Bool) (nx:σ→Fm→σ):Fm→σ→Bool×σ
 |.mk op n ks,s=>if out s (.mk op n ks)=true then wmL out nx ks (nx s (.mk op n ks)) else (false,nx s (.mk op n ks))
def wmL {σ:Type} (out:σ→Fm→Bool) (nx:σ→Fm→σ):List Fm→σ→Bool×σ
 | [],s=>(true,s)
 |k::ks,s=>if (wmS out nx k s).1=true then wmL out nx ks (wmS out nx k s).2 else (false,(wmS out nx k s).2)
end
section
variable {σ:Type} {out:σ→Fm→Bool} {nx:σ→Fm→σ}
def wmF (out:σ→Fm→Bool) (nx:σ→Fm→σ) (s:σ) (k:Fm):Bool×σ:=(!(wmS out nx k s).1,(wmS out nx k s).2)
theorem b9p:∀(ks:List Fm) (s:σ) (i:Nat),(wmL out nx ks s).1 = !decide (0≤(a2I (wmF out nx) s ks i).1)∧(wmL out nx ks s).2=(a2I (wmF out nx) s ks i).2
 | [],s,i=>by simp[wmL,a2I]
 |k::ks,s,i=>by
  have ih:=b9p ks (wmS out nx k s).2 (i+1)
  by_cases h:(wmS out nx k s).1=true
  ·simp only[wmL,a2I,wmF,h,if_true,Bool.not_true,Bool.false_eq_true,if_false]
   exact ih
  ·have h':(wmS out nx k s).1=false:=by simpa using h
   simp only[wmL,a2I,wmF,h',Bool.false_eq_true,if_false,Bool.not_false,if_true]
   exact⟨by simp,trivial⟩
theorem c9y {x:Fm} {s:σ} (h:out s x=false):wmS out nx x s=(false,nx s x):=by
 cases x;simp only[wmS,h,Bool.false_eq_true,if_false]
theorem c4Z {x:Fm} {s:σ} (h:out s x=true):wmS out nx x s=(!decide (0≤(a2I (wmF out nx) (nx s x) x.kids 0).1),(a2I (wmF out nx) (nx s x) x.kids 0).2):=by
 have e:wmS out nx x s=wmL out nx x.kids (nx s x):=by cases x;simp only[wmS,h,if_true];rfl
 have h2:=b9p (out:=out) (nx:=nx) x.kids (nx s x) 0;rw[e];exact Prod.ext h2.1 h2.2
end
mutual
def allM (p:Fm→Bool):Fm→Bool
 |.mk op n ks=>p (.mk op n ks)&&allML p ks
def allML (p:Fm→Bool):List Fm→Bool
 | []=>true
 |k::ks=>allM p k&&allML p ks
end
mutual
theorem wm_all (p:Fm→Bool):∀(x:Fm) (s:Unit),(wmS (fun _ x=>p x) (fun s _=>s) x s).1=allM p x
 |.mk op n ks,s=>by
  simp only[wmS,allM]
  split
  ·rename_i h;rw[h,Bool.true_and];exact wm_allL p ks s
  ·rename_i h;simp at h;simp[h]
theorem wm_allL (p:Fm→Bool):∀(ks:List Fm) (s:Unit),(wmL (fun _ x=>p x) (fun s _=>s) ks s).1=allML p ks
 | [],s=>by simp[wmL,allML]
 |k::ks,s=>by
  simp only[wmL,allML]
  split
  ·rename_i h
   have h1:=wm_all p k s;rw[h]at h1
   rw[←h1,Bool.true_and];exact wm_allL p ks _
  ·rename_i h
   have h1:=wm_all p k s;have h:(wmS (fun _ x=>p x) (fun s _=>s) k s).1=false:=by simpa using h
   rw[h]at h1
   rw[←h1];rfl
end
def smN (n:Int) (_:Fm):Int:=IntKind.i64.wrap (n+1)
def smO (n:Int) (_:Fm):Bool:=decide (IntKind.i64.wrap (n+1)≤4096)
theorem d7X {n:Int} {x:Fm} (h0:0≤n) (h1:n<4096):smN n x=n+1∧smO n x=true:=by
 have e:IntKind.i64.wrap (n+1)=n+1:=by rw[IntKind.wrap_i64];omega
 unfold smN smO;rw[e];exact⟨rfl,decide_eq_true oM⟩
mutual
theorem wm_size:∀(x:Fm) (n:Int),0≤n→n+cntN x≤4096→wmS smO smN x n=(true,n+cntN x)
 |.mk op m ks,n,h0,h1=>by
  simp only[cntN]at h1
  obtain⟨e1,e2⟩:=d7X (x:=.mk op m ks) h0 oM
  simp only[wmS,cntN,e1,e2,if_true]
  rw[wm_sizeL ks (n+1) oM oM];exact Prod.ext rfl (by show _=_;omega)
theorem wm_sizeL:∀(ks:List Fm) (n:Int),0≤n→n+cntNL ks≤4096→wmL smO smN ks n=(true,n+cntNL ks)
 | [],n,h0,h1=>by simp[wmL,cntNL]
 |k::ks,n,h0,h1=>by
  simp only[cntNL]at h1
  simp only[wmL,cntNL]
  rw[wm_size k n h0 oM]
  simp only[if_true]
  rw[wm_sizeL ks _ oM oM];exact Prod.ext rfl (by show _=_;omega)
end
def d6J (x:Fm):Int:=(wmS smO smN x 0).2
theorem d2q {x:Fm} (h:cntN x≤4096):d6J x=cntN x:=by
 unfold d6J;rw[wm_size x 0 (Int.le_refl _) oM];show 0+_=_;omega
def prN (x:Fm):Bool:=
 if x.op=1 then (((decide (x.n≥0)&&decide (x.n<5000))&&decide ((x.kids.length:Int)>1))&&decide ((x.kids.length:Int)≤5))
 else if x.op=2∨x.op=3 then decide (x.n=0)&&decide ((x.kids.length:Int)=0) else false
theorem c3K {x:Fm} (h:x.op=1):prN x=(((decide (x.n≥0)&&decide (x.n<5000))&&decide ((x.kids.length:Int)>1))&&decide ((x.kids.length:Int)≤5)):=by unfold prN;rw[if_pos h]
theorem d4X {x:Fm} (h:¬x.op=1) (h2:x.op=2∨x.op=3):prN x=(decide (x.n=0)&&decide ((x.kids.length:Int)=0)):=by unfold prN;rw[if_neg h,if_pos h2]
theorem d4Y {x:Fm} (h:¬x.op=1) (h2:¬(x.op=2∨x.op=3)):prN x=false:=by unfold prN;rw[if_neg h,if_neg h2]
def c3O (x:Fm):Bool:=decide (d6J x≤4096)&&allM prN x
structure Opn (l:List Rep) (ch:List Int):Prop where
 len:ch.length=l.length
 neg:∀i (h1:i<l.length) (h2:i<ch.length),ch[i]<0→ch[i] = -1∧1<chs l[i]
 pos:∀i (h1:i<l.length) (h2:i<ch.length),0≤ch[i]→ch[i]<chs l[i]
theorem Opn.set {l:List Rep} {ch:List Int} (h:Opn l ch) {a:Nat} (ha:a<l.length) {k:Int} (hk:0≤k) (hc:k<chs l[a]):Opn l (ch.set a k):=by
 refine⟨by rw[List.length_set];exact h.len,fun i h1 h2 hn=>?_,fun i h1 h2 hn=>?_⟩
 ·rw[List.getElem_set]at hn ⊢
  split at hn
  ·omega
  ·rename_i hne;rw[if_neg hne];exact h.neg i h1 _ hn
 ·rw[List.getElem_set]at hn ⊢
  split
  ·rename_i e;subst e;exact hc
  ·rename_i hne;rw[if_neg hne]at hn;exact h.pos i h1 _ hn
theorem Opn.beg {l:List Rep} (h:∀r∈l,a0g r=true):Opn l (l.map b3V):=by
 refine⟨List.length_map _,fun i h1 h2 hn=>?_,fun i h1 h2 hn=>?_⟩
 all_goals
  rw[List.getElem_map]at hn ⊢
  have hp:=a5S (h l[i] (List.getElem_mem h1));unfold b3V a8F at hn ⊢
  split at hn
  ·rename_i ho
   simp only[Bool.not_eq_true',decide_eq_false_iff_not]at ho
   first
    |(rw[if_pos (by simpa using ho)];exact⟨rfl,oM⟩)
    |omega
  ·rename_i ho
   first
    |omega
    |(rw[if_neg ho];omega)
section
variable {c:List Kind} {l:List Rep} {ch:List Int} {n a:Nat}
theorem a3q (ho:Opn l ch) (h:¬a1C l ch<0):∃a:Nat,a1C l ch=a∧∃(ha:a<l.length) (hb:a<ch.length),ch[a]<0∧1<chs l[a]:=by
 obtain⟨a,e,ha,hb,hn⟩:=b8X h ho.len;exact⟨a,e,ha,hb,hn,(ho.neg a ha hb hn).2⟩
theorem a9F (ho:Opn l ch) (h:a1C l ch<0):∀x∈ch,0≤x:=by
 have key:∀i,i≤ch.length→a7b l ch i<0→∀j (hj:j<ch.length),j<i→0≤ch[j]:=by
  intro i
  induction i with
  |zero=>intro _ _ j _ h;omega
  |succ i ih=>
   intro hi hs j hj hji;have hlt:i<ch.length:=oM;rw[a7Z,b1M]at hs
   split at hs
   ·omega
   ·rename_i hc
    have h2:=ih oM hs
    rcases Nat.lt_or_ge j i with h3|h3
    ·exact h2 j hj h3
    ·obtain rfl:j=i:=oM
     rcases Int.lt_or_le ch[j] 0 with h4|h4
     ·refine absurd ⟨?_,?_⟩ hc
      ·rw[b7c hlt];exact decide_eq_true h4
      ·rw[Bool.or_eq_true];exact .inl (decide_eq_true hs)
     ·exact h4
 intro x hx;obtain⟨j,hj,rfl⟩:=List.getElem_of_mem hx;exact key ch.length (Nat.le_refl _) h j hj hj
theorem b3W {p:Fm→Bool}:∀{ks:List Fm},allML p ks=true↔∀k∈ks,allM p k=true
 | []=>by simp[allML]
 |k::ks=>by simp[allML,b3W (ks:=ks)]
theorem c4B (ho:Opn l ch) (hl:l.length≤5000):∀n ch,Opn l ch→allM prN (a2i c l n ch)=true:=by
 intro n
 induction n with
 |zero=>
  intro ch ho;unfold a2i
  split<;>rfl
 |succ n ih=>
  intro ch ho
  cases hf:a1B c l ch with
  |true=>rw[a3e hf];rfl
  |false=>
   by_cases hs:a1C l ch<0
   ·rw[a3f hf hs];rfl
   ·obtain⟨a,e,ha,hb,hn,hc⟩:=a3q ho hs;rw[a2s hf e];have hk:=a7z (c:=c) (l:=l) (n:=n) (ch:=ch) (a:=a) (by rw[a5E ha];omega);rw[a5E ha]at hk
    have h5:=a6m l[a];rw[allM,Bool.and_eq_true];refine⟨?_,b3W.2 fun k hk=>?_⟩
    ·rw[c3K rfl]
     simp only[Bool.and_eq_true,decide_eq_true_eq]
     refine⟨⟨⟨?_,?_⟩,?_⟩,?_⟩
     ·show (a:Int)≥0;omega
     ·show (a:Int)<5000;omega
     ·show ((a2w c l n ch a).length:Int)>1;omega
     ·show ((a2w c l n ch a).length:Int)≤5;omega
    ·obtain⟨j,hj,rfl⟩:=List.mem_map.1 hk;have hj:=List.mem_range.1 hj;rw[a5E ha]at hj
     exact ih _ (ho.set ha oM oM)
def a2m (c:List Kind) (l:List Rep):Nat→List Int→List (List Int)
 |0,ch=>if a1B c l ch=true then [] else [ch]
 |n+1,ch=>if a1B c l ch=true then [] else if a1C l ch<0 then [ch] else
  (List.range (chs (l.getD (a1C l ch).toNat ⟨[],false⟩)).toNat).flatMap fun k:Nat=>a2m c l n (ch.set (a1C l ch).toNat (k:Int))
def a5x (c:List Kind) (l:List Rep) (n:Nat) (ch:List Int) (a:Nat) (k:Nat):List (List Int):=(List.range k).flatMap fun k:Nat=>a2m c l n (ch.set a (k:Int))
theorem a5d (h:a1B c l ch=true):a2m c l n ch=[]:=by cases n<;>(unfold a2m;rw[if_pos h])
theorem a5e (h:a1B c l ch=false) (h2:a1C l ch<0):a2m c l n ch=[ch]:=by
 cases n with
 |zero=>unfold a2m;rw[if_neg (by rw[h];decide)]
 |succ n=>unfold a2m;rw[if_neg (by rw[h];decide),if_pos h2]
theorem a6o (h:a1B c l ch=false) (h2:a1C l ch=(a:Nat)):a2m c l (n+1) ch=a5x c l n ch a (chs (l.getD a ⟨[],false⟩)).toNat:=by
 conv=>lhs;unfold a2m
 rw[if_neg (by rw[h];decide),if_neg oM,h2];rfl
theorem a8z:a5x c l n ch a 0=[]:=rfl
theorem a5h (k:Nat):a5x c l n ch a (k+1)=a5x c l n ch a k++a2m c l n (ch.set a (k:Int)):=by
 unfold a5x;rw[List.range_succ,List.flatMap_append];simp
theorem d5M (ho:Opn l ch) (hn:a9m ch≤n) (h:(a2i c l n ch).op=2):a2m c l n ch=[]:=by
 cases hf:a1B c l ch with
 |true=>exact a5d hf
 |false=>
  by_cases hs:a1C l ch<0
  ·rw[a3f hf hs]at h;exact absurd h (by decide)
  ·obtain⟨a,e,ha,hb,hna,hca⟩:=a3q ho hs
   cases n with
   |zero=>have:=a5y (k:=0) hb hna (Int.le_refl 0);omega
   |succ n=>rw[a2s hf e]at h;exact absurd h (show ¬(1:Int)=2 by decide)
theorem d5N (ho:Opn l ch) (hn:a9m ch≤n) (h:(a2i c l n ch).op=3):a2m c l n ch=[ch]∧∀x∈ch,0≤x:=by
 cases hf:a1B c l ch with
 |true=>rw[a3e hf]at h;exact absurd h (show ¬(2:Int)=3 by decide)
 |false=>
  by_cases hs:a1C l ch<0
  ·exact⟨a5e hf hs,a9F ho hs⟩
  ·obtain⟨a,e,ha,hb,hna,hca⟩:=a3q ho hs
   cases n with
   |zero=>have:=a5y (k:=0) hb hna (Int.le_refl 0);omega
   |succ n=>rw[a2s hf e]at h;exact absurd h (show ¬(1:Int)=3 by decide)
theorem d5L {N:Nat} (ho:Opn l ch) (hn:a9m ch≤N) (h2:¬(a2i c l N ch).op=2) (h3:¬(a2i c l N ch).op=3) :
  ∃n a,N=n+1∧∃(ha:a<l.length) (hb:a<ch.length),ch[a]<0∧1<chs l[a]∧(a2i c l N ch).n=(a:Int)∧(a2i c l N ch).kids=a2w c l n ch a∧((a2w c l n ch a).length:Int)=chs l[a]∧a2m c l N ch=a5x c l n ch a (a2w c l n ch a).length:=by
 cases hf:a1B c l ch with
 |true=>rw[a3e hf]at h2;exact absurd rfl h2
 |false=>
  by_cases hs:a1C l ch<0
  ·rw[a3f hf hs]at h3;exact absurd rfl h3
  ·obtain⟨a,e,ha,hb,hna,hca⟩:=a3q ho hs
   cases N with
   |zero=>have:=a5y (k:=0) hb hna (Int.le_refl 0);omega
   |succ n=>
    have hk:=a7z (c:=c) (l:=l) (n:=n) (ch:=ch) (a:=a) (by rw[a5E ha];omega);rw[a5E ha]at hk
    refine⟨n,a,rfl,ha,hb,hna,hca,?_,?_,hk,?_⟩
    ·rw[a2s hf e];rfl
    ·rw[a2s hf e];rfl
    ·rw[a6o hf e,a5E ha,←hk];rfl
theorem c6z {k m:Nat} (h:k≤m):(a5x c l n ch a k).length≤(a5x c l n ch a m).length:=by
  induction m with
  | zero => obtain rfl : k = 0 := oM
            exact Nat.le_refl _
  |succ m ih=>
    rcases Nat.lt_or_ge k (m+1) with h1|h1
    · rw[a5h,List.length_append];have:=ih oM;omega
    · obtain rfl:k=m+1:=oM
      exact Nat.le_refl _
def Agr (ch t:List Int):Prop:=t.length=ch.length∧∀(i:Nat) (h1:i<ch.length) (h2:i<t.length),0≤ch[i]→t[i]=ch[i]
theorem b7y:∀L:List Int,∃m:Nat,∀i (h:i<L.length),m.testBit i=decide (L[i]<0)
 | []=>⟨0,fun i h=>absurd h (by simp)⟩
 |x::L=>by
  obtain⟨m,hm⟩:=b7y L;refine⟨2 * m+(if x<0 then 1 else 0),fun i h=>?_⟩
  cases i with
  |zero=>
   rw[Nat.testBit_zero]
   show _=decide (x<0)
   by_cases hx:x<0
   ·simp only[hx,if_true,decide_true,decide_eq_true_eq];omega
   ·simp only[hx,if_false,decide_false,decide_eq_false_iff_not];omega
  |succ i=>
   rw[Nat.testBit_succ];have e:(2 * m+(if x<0 then 1 else 0)) / 2=m:=by split<;>omega
   rw[e,hm i (by simpa using h)];rfl
theorem b7Q {t:List Int} (ho:Opn l ch) (ha:Agr ch t) (ht:isF c l t=true):a1B c l ch=false:=by
 have hg:=a7x ht;have hf:a1B c l t=false:=by rw[b2Y hg,ht];rfl
 cases hq:a1B c l ch with
 |false=>rfl
 |true=>
  have hcase:∃m:Nat,ch=a5z t m:=by
   obtain⟨m,hm⟩:=b7y ch;refine⟨m,List.ext_getElem (by rw[a4y];exact ha.1.symm) fun i h1 h2=>?_⟩;rw[a6Y,hm i h1];have h3:i<l.length:=by rw[←ho.len];exact h1
   have h4:i<t.length:=by rw[a4y]at h2;exact h2
   by_cases hx:ch[i]<0
   ·rw[if_pos (decide_eq_true hx)];exact (ho.neg i h3 h1 hx).1
   ·rw[if_neg (by simp[hx])];exact (ha.2 i h1 h4 oM).symm
  obtain⟨m,rfl⟩:=hcase;have:=b9J (a:=m) (b:=0) hg (fun i h=>by simp at h) hq;rw[c3j,hf]at this;cases this
theorem b7N (hv:d0J c l=true):∀n ch,Opn l ch→a9m ch≤n→∀t,t∈a2m c l n ch↔Agr ch t∧isF c l t=true:=by
 have hc:a1I c=true:=by simp only[d0J,Bool.and_eq_true]at hv;exact hv.1
 have hva:∀r∈l,a0g r=true:=fun r hr=>by
  simp only[d0J,Bool.and_eq_true]at hv
  obtain⟨_,h⟩:=a3P hv.2 hr;exact h
 intro n
 induction n with
 |zero=>
  intro ch ho hn t
  have hpos:∀x∈ch,0≤x:=fun x hx=>by
   rcases Int.lt_or_le x 0 with h|h
   ·have:x∈ch.filter fun x=>decide (x<0):=List.mem_filter.2 ⟨hx,by simpa using h⟩
    rw[List.eq_nil_of_length_eq_zero (Nat.le_zero.1 hn)]at this;cases this
   ·exact h
  have hagr:Agr ch t→t=ch:=fun ha=>List.ext_getElem ha.1 fun i h1 h2=>ha.2 i h2 h1 (hpos _ (List.getElem_mem h2))
  have hgv:a1L c l ch 0=true:=a6t hc ho.len fun i h1 h2=>⟨by have:=a5S (hva l[i] (List.getElem_mem h1));omega,hpos _ (List.getElem_mem h2),ho.pos i h1 h2 (hpos _ (List.getElem_mem h2))⟩
  unfold a2m;rw[b2Y hgv]
  cases hi:isF c l ch with
  |true=>
   simp only[Bool.not_true,Bool.false_eq_true,if_false,List.mem_singleton]
   exact⟨fun e=>by subst e;exact⟨⟨rfl,fun _ _ _ _=>rfl⟩,hi⟩,fun h=>hagr h.1⟩
  |false=>
   simp only[Bool.not_false,if_true,List.not_mem_nil,false_iff]
   rintro⟨h1,h2⟩;rw[hagr h1,hi]at h2;cases h2
 |succ n ih=>
  intro ch ho hn t
  cases hf:a1B c l ch with
  |true=>
   rw[a5d hf]
   simp only[List.not_mem_nil,false_iff]
   rintro⟨h1,h2⟩;rw[b7Q ho h1 h2]at hf;cases hf
  |false=>
   by_cases hs:a1C l ch<0
   ·rw[a5e hf hs,List.mem_singleton];have hpos:=a9F ho hs;have hgv:a1L c l ch 0=true:=a6t hc ho.len fun i h1 h2=>⟨by have:=a5S (hva l[i] (List.getElem_mem h1));omega,hpos _ (List.getElem_mem h2),ho.pos i h1 h2 (hpos _ (List.getElem_mem h2))⟩
    have hi:isF c l ch=true:=by rw[b2Y hgv]at hf;simpa using hf
    exact⟨fun e=>by subst e;exact⟨⟨rfl,fun _ _ _ _=>rfl⟩,hi⟩,fun h=>List.ext_getElem h.1.1 fun i h1 h2=>h.1.2 i h2 h1 (hpos _ (List.getElem_mem h2))⟩
   ·obtain⟨a,e,ha,hb,hna,hca⟩:=a3q ho hs;rw[a6o hf e,a5E ha,a5x,List.mem_flatMap];have hneg:∀k:Int,0≤k→a9m (ch.set a k)≤n:=fun k hk=>by have:=a5y (k:=k) hb hna hk;omega
    constructor
    ·rintro⟨k,hk,ht⟩;have hk:=List.mem_range.1 hk;obtain⟨h1,h2⟩:=(ih _ (ho.set ha oM oM) (hneg k oM) t).1 ht;refine⟨⟨by have:=h1.1;rw[List.length_set]at this;exact this,fun i h3 h4 h5=>?_⟩,h2⟩;have h6:=h1.2 i (by rw[List.length_set];exact h3) h4;rw[List.getElem_set]at h6
     split at h6
     ·rename_i e2;subst e2;omega
     ·exact h6 h5
    ·rintro⟨h1,h2⟩;have hg:=a7x h2;have hta:a<t.length:=by rw[h1.1];exact hb
     obtain⟨_,h3,h4⟩:=a4p hg ha hta;refine⟨t[a].toNat,List.mem_range.2 oM,?_⟩;have e2:((t[a].toNat:Nat):Int)=t[a]:=oM;rw[e2];refine (ih _ (ho.set ha h3 h4) (hneg _ h3) t).2 ⟨⟨by rw[List.length_set];exact h1.1,fun i h5 h6 h7=>?_⟩,h2⟩;rw[List.getElem_set]at h7 ⊢
     split
     ·rename_i e3;subst e3;rfl
     ·rename_i hne;rw[if_neg hne]at h7;exact h1.2 i (by rw[List.length_set]at h5;exact h5) h6 h7
end
end Go.Sx
set_option linter.all false
namespace Go.Sx
open Go
def a5q:List Rep→List Int→Nat
 |r::l,x::ch=>(if x<0 then (chs r).toNat else 1) * a5q l ch
 |_,_=>1
theorem a4F:∀{l:List Rep} {ch:List Int} {a:Nat} {k:Int} (ha:a<l.length) (hb:a<ch.length),ch[a]<0→0≤k→a5q l ch=(chs l[a]).toNat * a5q l (ch.set a k)
 |r::l,x::ch,0,k,ha,hb,h1,h2=>by
  have h1:x<0:=h1
  show (if x<0 then (chs r).toNat else 1) * a5q l ch=(chs r).toNat * ((if k<0 then (chs r).toNat else 1) * a5q l ch)
  rw[if_pos h1,if_neg oM,Nat.one_mul]
 |r::l,x::ch,a+1,k,ha,hb,h1,h2=>by
  have ih:=a4F (l:=l) (ch:=ch) (a:=a) (k:=k) (by simpa using ha) (by simpa using hb) (by simpa using h1) h2
  show (if x<0 then (chs r).toNat else 1) * a5q l ch=(chs (l[a]'(by simpa using ha))).toNat * ((if x<0 then (chs r).toNat else 1) * a5q l (ch.set a k))
  rw[ih,Nat.mul_left_comm]
theorem a5r:∀{l:List Rep} {ch:List Int},(∀r∈l,chs r≠0)→1≤a5q l ch
 | [],_,_=>Nat.le_refl _
 |r::l,[],_=>Nat.le_refl _
 |r::l,x::ch,h=>by
  have ih:=a5r (l:=l) (ch:=ch) fun q hq=>h q (List.mem_cons_of_mem _ hq)
  have h1:chs r≠0:=h r (List.mem_cons_self ..);have h2:0≤chs r:=b0i r;have h3:1≤(if x<0 then (chs r).toNat else 1):=by split<;>omega
  show 1≤_ * _
  exact Nat.mul_le_mul h3 ih
theorem b1r:∀{l:List Rep},(∀r∈l,chs r≠0)→a5q l (l.map b3V)=a3O l
 | [],_=>rfl
 |r::l,h=>by
  have ih:=b1r (l:=l) fun q hq=>h q (List.mem_cons_of_mem _ hq)
  have h1:chs r≠0:=h r (List.mem_cons_self ..);have h2:0≤chs r:=b0i r
  show (if b3V r<0 then (chs r).toNat else 1) * a5q l (l.map b3V)=(chs r).toNat * a3O l
  rw[ih];unfold b3V a8F
  by_cases he:chs r=1
  ·simp[he]
  ·simp[he]
section
variable {c:List Kind} {l:List Rep} {ch:List Int} {n a:Nat}
theorem c1E {m b:Nat} {g:Nat→Fm} (h:∀k,k<m→cntN (g k)≤b):cntNL ((List.range m).map g)≤m * b:=by
 induction m with
 |zero=>simp[cntNL]
 |succ m ih=>
  rw[List.range_succ,List.map_append,b0k];have h1:=ih fun k hk=>h k oM
  have h2:=h m oM
  simp only[List.map_cons,List.map_nil,cntNL,Nat.add_mul];omega
theorem c8p (hp:∀r∈l,chs r≠0):∀n ch,Opn l ch→cntN (a2i c l n ch)+1≤2 * a5q l ch:=by
 intro n
 induction n with
 |zero=>
  intro ch ho;have:=a5r (ch:=ch) hp;unfold a2i
  split<;>(simp[cntN,cntNL];omega)
 |succ n ih=>
  intro ch ho;have h1:=a5r (ch:=ch) hp
  cases hf:a1B c l ch with
  |true=>rw[a3e hf];simp[cntN,cntNL];omega
  |false=>
   by_cases hs:a1C l ch<0
   ·rw[a3f hf hs];simp[cntN,cntNL];omega
   ·obtain⟨a,e,ha,hb,hn,hc⟩:=a3q ho hs;rw[a2s hf e,b2Q,a2w,a5E ha,a4F ha hb hn (Int.le_refl 0)]
    have hk:∀k,k<(chs l[a]).toNat→cntN (a2i c l n (ch.set a (k:Int)))≤2 * a5q l (ch.set a 0)-1:=fun k hk=>by
     have h2:=ih _ (ho.set ha (k:=(k:Int)) oM oM);have h3:=a4F ha hb hn (Int.le_refl 0);rw[a4F ha hb hn (show (0:Int)≤(k:Int) from oM)]at h3
     have h4:a5q l (ch.set a (k:Int))=a5q l (ch.set a 0):=Nat.eq_of_mul_eq_mul_left oM h3
     omega
    have h5:=c1E hk;have h6:=a5r (ch:=ch.set a 0) hp;have h7:2≤(chs l[a]).toNat:=oM
    generalize (chs l[a]).toNat=m at *
    generalize a5q l (ch.set a 0)=W at *
    have h8:m * (2 * W-1)+m=2 * (m * W):=by
     rw[←Nat.mul_succ,Nat.succ_eq_add_one,Nat.sub_add_cancel oM,Nat.mul_left_comm]
    omega
end
def b4d (l:List Rep):List Int:=l.map b3V
def a3k (c:List Kind) (l:List Rep):Fm:=a2i c l (a9m (b4d l)) (b4d l)
def a2o (c:List Kind) (l:List Rep):List (List Int):=a2m c l (a9m (b4d l)) (b4d l)
theorem b5A {c:List Kind} {l:List Rep} (hv:∀r∈l,a0g r=true):cntN (a3k c l)+1≤2 * a3O l:=by
 have hp:∀r∈l,chs r≠0:=fun r hr=>by have:=a5S (hv r hr);omega
 rw[←b1r hp];exact c8p hp _ _ (Opn.beg hv)
theorem b0o {c:List Kind} {l:List Rep} (hc:a1I c=true) (hv:∀r∈l,a0g r=true) (t:List Int):t∈a2o c l↔isF c l t=true:=by
 have hg:d0J c l=true:=by
  simp only[d0J,Bool.and_eq_true]
  refine⟨hc,?_⟩;rw[a3v,List.all_eq_true];intro i hi;have hi:=List.mem_range.1 hi
  simp only[List.getElem?_eq_getElem hi]
  exact hv _ (List.getElem_mem hi)
 unfold a2o b4d;rw[b7N hg _ _ (Opn.beg hv) (Nat.le_refl _)];refine⟨fun h=>h.2,fun h=>⟨?_,h⟩⟩;have hgi:a1L c l t 0=true:=a7x h;have hl:=(a3o hgi).1;refine⟨by rw[List.length_map,hl],fun i h1 h2 h3=>?_⟩;have h4:i<l.length:=by rw[←hl];exact h2
 obtain⟨_,h5,h6⟩:=a4p hgi h4 h2;rw[List.getElem_map]at h3 ⊢
 unfold b3V a8F at h3 ⊢
 split at h3
 ·omega
 ·rename_i ho
  rw[if_neg ho]
  simp at ho
  omega
theorem c1V {α β:Type} {l:List α} {f:α→β} {i:Nat} (h:i<l.length):(l.map f).take i++[f l[i]]=(l.map f).take (i+1):=by
 rw[←a0c (l:=l.map f) (i:=i) (by rw[List.length_map];exact h),List.getElem_map]
theorem d4a {α β:Type} {l:List α} {f:α→β}:(l.map f).take l.length=l.map f:=List.take_of_length_le (by rw[List.length_map];exact Nat.le_refl _)
theorem a3N {l:List Rep} (hva:(l.any fun r=>!a0g r)=false):∀r∈l,a0g r=true:=fun r hr=>by
 have:=List.any_eq_false.1 hva r hr
 simpa using this
theorem b7h {c:List Kind} {l:List Rep} (hva:(l.any fun r=>!a0g r)=false) (hl:l.length≤5000) (h96:cntN (a3k c l)≤4096):c3O (a3k c l)=true:=by
 unfold c3O;rw[d2q h96,Bool.and_eq_true];exact⟨decide_eq_true oM,c4B (Opn.beg (a3N hva)) hl _ _ (Opn.beg (a3N hva))⟩
section
variable {c:List Kind} {l:List Rep} {ch:List Int} {n a:Nat}
theorem c5Q (hp:∀r∈l,chs r≠0):∀n ch,Opn l ch→(a2m c l n ch).length≤a5q l ch:=by
 intro n
 induction n with
 |zero=>
  intro ch ho;have:=a5r (ch:=ch) hp;unfold a2m
  split<;>(simp;try omega)
 |succ n ih=>
  intro ch ho;have h1:=a5r (ch:=ch) hp
  cases hf:a1B c l ch with
  |true=>rw[a5d hf];simp
  |false=>
   by_cases hs:a1C l ch<0
   ·rw[a5e hf hs];simpa using h1
   ·obtain⟨a,e,ha,hb,hn,hc⟩:=a3q ho hs;rw[a6o hf e,a5x,a5E ha,a4F ha hb hn (Int.le_refl 0)]
    have hk:∀k,k<(chs l[a]).toNat→(a2m c l n (ch.set a (k:Int))).length≤a5q l (ch.set a 0):=fun k hk=>by
     have h2:=ih _ (ho.set ha (k:=(k:Int)) oM oM);have h3:=a4F ha hb hn (Int.le_refl 0);rw[a4F ha hb hn (show (0:Int)≤(k:Int) from oM)]at h3
     have h4:a5q l (ch.set a (k:Int))=a5q l (ch.set a 0):=Nat.eq_of_mul_eq_mul_left oM h3
     omega
    have key:∀m,m≤(chs l[a]).toNat→((List.range m).flatMap fun k:Nat=>a2m c l n (ch.set a (k:Int))).length≤m * a5q l (ch.set a 0):=by
     intro m
     induction m with
     |zero=>intro _;simp
     |succ m ihm=>
      intro hm;rw[List.range_succ,List.flatMap_append,List.length_append,Nat.add_mul];have h5:=ihm oM;have h6:=hk m oM
      simp only[List.flatMap_cons,List.flatMap_nil,List.append_nil];omega
    exact key _ (Nat.le_refl _)
theorem b4v (hv:∀r∈l,a0g r=true):(a2o c l).length≤a3O l:=by
 have hp:∀r∈l,chs r≠0:=fun r hr=>by have:=a5S (hv r hr);omega
 rw[←b1r hp];exact c5Q hp _ _ (Opn.beg hv)
theorem c7e {R:Nat→Nat} {p:ByteArray}:(a0D l R p).Sublist l:=by
 unfold a0D ofN
 split
 ·exact c7k 0 _
 ·exact List.nil_sublist _
theorem a7L {R:Nat→Nat} {p:ByteArray} (hv:∀r∈l,a0g r=true):a3O (a0D l R p)≤a3O l:=by
 have hp:∀r∈l,chs r≠0:=fun r hr=>by have:=a5S (hv r hr);omega
 exact c8z c7e hp
end
theorem b1Q (x:Int):(ci x).oneCell'=true:=rfl
theorem c2Z:(Value.slice none 0 0).oneCell'=true:=rfl
structure Vdt where
 kind:Int
 proof:Fm
 hist:List Int
 faults:List Flt
def Vdt.cs (v:Vdt) (k h f:Value):List Value:=[ci v.kind,ci v.proof.op,ci v.proof.n,k,h,f]
structure VdRd (I:IMap) (k h f:Value) (v:Vdt):Prop where
 k:RdS I k v.proof.kids
 h:RdS I h v.hist
 f:RdS I f v.faults
theorem VdRd.le {I I':IMap} {k h f:Value} {v:Vdt} (x:VdRd I k h f v) (hI:ILe I I'):VdRd I' k h f v:=⟨x.k.le hI,x.h.le hI,x.f.le hI⟩
theorem VdRd.one {I:IMap} {k h f:Value} {v:Vdt} (x:VdRd I k h f v):(v.cs k h f).all (·.oneCell')=true:=by simp[Vdt.cs,x.k.one,x.h.one,x.f.one,b1Q]
instance:Enc Vdt where
 k:=6
 rd I vs v:=∃k h f,vs=v.cs k h f∧VdRd I k h f v
 len h:=by obtain⟨_,_,_,rfl,_⟩:=h;rfl
 mono hI h:=by obtain⟨a,b,c,rfl,h⟩:=h;exact⟨a,b,c,rfl,h.le hI⟩
 one h:=by obtain⟨_,_,_,rfl,h⟩:=h;exact h.one
def d1l:Fm:=.mk 0 0 []
def b3Q:Vdt:=⟨4,d1l,[],[]⟩
def b9E (p:Fm) (eds:List (List Int)) (fts:List Int→List Flt):Vdt:=
 match eds.find? fun t=>!(fts t).isEmpty with
 |some t=>⟨2,d1l,t,fts t⟩
 |none=>⟨if eds.isEmpty=true then 3 else 1,p,[],[]⟩
noncomputable def ftsF (f:Fm) (c:List Kind) (b:Bok) (own:List Rep) (vn:ByteArray) (day:Int) (t:List Int):List Flt:=ofF f c b (a0J own t).1 vn day
noncomputable def decR (f:Fm) (c:List Kind) (b:Bok) (l own:List Rep) (vn:ByteArray) (day:Int):Vdt:=
 if (!decide ((runL f c [] 0).2.2=0)||l.any fun r=>!a0g r)=true then b3Q else b9E (a3k c own) (a2o c own) (ftsF f c b own vn day)
section
variable {p:Fm} {eds pre:List (List Int)} {fts:List Int→List Flt} {t:List Int}
def d8m (fts:List Int→List Flt) (pre:List (List Int)):Prop:=∀t∈pre,fts t=[]
theorem b9F (h:d8m fts eds):b9E p eds fts=⟨if eds.isEmpty=true then 3 else 1,p,[],[]⟩:=by
 unfold b9E;rw[List.find?_eq_none.2 fun t ht=>by rw[h t ht];simp]
theorem c5M {rest:List (List Int)} (h:d8m fts pre) (hf:fts t≠[]) (he:eds=pre++t::rest):b9E p eds fts=⟨2,d1l,t,fts t⟩:=by
 unfold b9E
 have e:eds.find? (fun t=>!(fts t).isEmpty)=some t:=by
  rw[he,List.find?_append,List.find?_eq_none.2 fun t ht=>by rw[h t ht];simp]
  simp[hf]
 rw[e]
theorem c1P {pre:List (List Int×List Flt)} {x:List Int×List Flt} (h:pre++[x] <+: eds.map fun t=>(t,fts t)) (hc:∀y∈pre,y.2=[]) (hx:x.2≠[]):b9E p eds fts=⟨2,d1l,x.1,x.2⟩:=by
 obtain⟨z,hz⟩:=h;rw[List.append_assoc]at hz
 obtain⟨a,r,rfl,h1,h2⟩:=List.map_eq_append_iff.1 hz.symm;obtain⟨t,s,rfl,h3,h4⟩:=List.map_eq_cons_iff.1 h2;subst h3;rw[c5M (pre:=a) (t:=t) (rest:=s) (fun y hy=>hc (y,fts y) (by rw[←h1];exact List.mem_map_of_mem hy)) hx rfl]
theorem c1O {pre:List (List Int×List Flt)} (h:pre=eds.map fun t=>(t,fts t)) (hc:∀y∈pre,y.2=[]):b9E p eds fts=⟨if pre.isEmpty=true then 3 else 1,p,[],[]⟩:=by
 subst h;rw[b9F fun t ht=>hc (t,fts t) (List.mem_map_of_mem ht)]
 cases eds<;>rfl
end
section
variable {f:Fm} {c:List Kind} {b:Bok} {l own:List Rep} {vn:ByteArray} {day:Int}
theorem a7V (h2:(runL f c [] 0).2.2=0):a1I c=true:=by
 unfold runL at h2
 split at h2
 ·rename_i h
  simp only[Bool.or_eq_true,Bool.not_eq_true']at h
  cases h2
 ·rename_i h
  simp at h
  exact h.1
theorem b7L (h:(!decide ((runL f c [] 0).2.2=0)||l.any fun r=>!a0g r)=true):decR f c b l own vn day=b3Q:=if_pos h
theorem b2T (h:(runL f c [] 0).2.2=0) (hv:(l.any fun r=>!a0g r)=false):decR f c b l own vn day=b9E (a3k c own) (a2o c own) (ftsF f c b own vn day):=if_neg (by rw[h,hv];simp)
end
end Go.Sx
set_option linter.all false
namespace Go.Sx
open Go
structure Amd where
 clock:Int
 frm:Int
 to:Int
 void:Bool
 rule:Rul
def Amd.cs (a:Amd) (s:Value):List Value:=[ci a.clock,ci a.frm,ci a.to,.bool a.void,.string a.rule.name,.string a.rule.kind,ci a.rule.cond.op,.string a.rule.cond.name,.string a.rule.cond.value,ci a.rule.cond.n,ci a.rule.cond.extra,s]
instance:Enc Amd where
 k:=12
 rd I vs a:=∃s,vs=a.cs s∧RdS I s a.rule.cond.kids
 len h:=by obtain⟨s,rfl,_⟩:=h;rfl
 mono hI h:=by obtain⟨s,rfl,h⟩:=h;exact⟨s,rfl,h.le hI⟩
 one h:=by obtain⟨s,rfl,A,c,rfl,_⟩:=h;rfl
def d2W (a:Amd):Bool:=((((decide (0≤a.clock)&&decide (a.clock≤1000000))&&decide (0≤a.frm))&&decide (a.frm≤a.to))&&decide (a.to≤40000))&&a5G a.rule
def d8w (day clock:Int) (a:Amd):Bool:=((!d2W a||decide (clock<a.clock))||decide (day<a.frm))||decide (a.to<day)
def zXp:Xp:=.mk 0 a0M a0M 0 0 []
def zAm:Amd:=⟨0,0,0,false,⟨a0M,a0M,zXp⟩⟩
def d6B (l:List Amd) (i:Nat):Amd:=l.getD i zAm
def d7j (l:List Amd) (day clock:Int):Nat→ByteArray→Option Nat
 |0,_=>none
 |i+1,s=>if (!d8w day clock (d6B l i)&&decide ((d6B l i).rule.name=s))=true then
   (match d7j l day clock i s with
    |none=>some i
    |some k=>if decide ((d6B l k).clock≤(d6B l i).clock)=true then some i else some k)
  else d7j l day clock i s
structure KvA (kvs:List (ByteArray×Value)) (D:ByteArray→Option Nat):Prop where
 nd:(kvs.map Prod.fst).Nodup
 get:∀s,a4h kvs s=(D s).map fun k=>Value.int .i64 ((k:Nat):Int)
section
variable {l:List Amd} {day clock:Int} {i:Nat} {s:ByteArray} {kvs:List (ByteArray×Value)} {D:ByteArray→Option Nat}
theorem KvA.nil:KvA [] (d7j l day clock 0):=⟨List.nodup_nil,fun _=>rfl⟩
theorem KvA.val (h:KvA kvs D) (s:ByteArray):(a4h kvs s).getD (.int .i64 0) = .int .i64 (((D s).getD 0:Nat):Int):=by
 rw[h.get];cases D s<;>rfl
theorem KvA.is (h:KvA kvs D) (s:ByteArray):(a4h kvs s).isSome=(D s).isSome:=by
 rw[h.get];cases D s<;>rfl
theorem KvA.put (h:KvA kvs D) (k:ByteArray) (i:Nat):KvA (a4I kvs k (.int .i64 ((i:Nat):Int))) fun s=>if k=s then some i else D s:=
 ⟨b0I h.nd,fun s=>by rw[a7C,h.get];split<;>rfl⟩
end
section
variable {l:List Amd} {day clock:Int} {i:Nat} {s:ByteArray} {kvs done:List (ByteArray×Value)} {m:List ByteArray}
end
end Go.Sx
set_option linter.all false
namespace Go.Sx
open Go
structure OkBk (b:Bok):Prop where
 rules:∀r∈b.rules,b2J r
 recalls:∀r∈b.recalls,b2J r
 duties:∀d∈b.duties,SmD d
section
variable {P:Program} {t:TypeId}
theorem c0l {ts ti tt:TypeId} (hf:a0C P t=some [(ti,0,1),(tt,1,1),(tt,2,1),(ti,3,1),(ti,4,1),(ts,5,1)]) (hc:P.cellsOf t=6) (hs:P.underlying ts=some (.slice t)) (hi:P.underlying ti=some (.int .i64)) (hst:a0X P tt ByteArray SmB):a0X P t Xp OkXp:=by
 unfold a0C at hf
 split at hf
 ·rename_i fs h1
  exact c6Y h1 (Option.some.inj hf) hc hs hi hst
 ·cases hf
theorem c3l {ts ti:TypeId} (hf:a0C P t=some [(ts,0,1),(ts,1,1),(ti,2,1)]) (hc:P.cellsOf t=3) (hs:a0X P ts ByteArray SmB) (hi:a0X P ti Int I64):a0X P t Cnc (fun _=>True):=by
 intro H enc w base spare held fuel cs x h;obtain⟨hl,hall⟩:=a0U hf h;rw[hc]at hl
 obtain⟨a0,r0_,rfl,l0_⟩:=a0f hl;obtain⟨a1,r1_,rfl,l1_⟩:=a0f l0_;obtain⟨a2,r2_,rfl,l2_⟩:=a0f l1_;obtain rfl:=a2y l2_;obtain⟨n0,y0,h0⟩:=hall (ts,0,1) (by simp);obtain⟨x0,e0,g0⟩:=hs enc w base spare held n0 _ y0 h0;have e0:[a0]=[.string x0]:=e0
 cases e0
 obtain⟨n1,y1,h1⟩:=hall (ts,1,1) (by simp);obtain⟨x1,e1,g1⟩:=hs enc w base spare held n1 _ y1 h1;have e1:[a1]=[.string x1]:=e1
 cases e1
 obtain⟨n2,y2,h2⟩:=hall (ti,2,1) (by simp);obtain⟨x2,e2,g2⟩:=hi enc w base spare held n2 _ y2 h2;have e2:[a2]=[.int .i64 x2]:=e2
 cases e2
 exact⟨⟨x0,x1,x2⟩,rfl,trivial⟩
theorem c3t {ts ti:TypeId} (hf:a0C P t=some [(ts,0,1),(ts,1,1),(ts,2,1),(ts,3,1),(ti,4,1)]) (hc:P.cellsOf t=5) (hs:a0X P ts ByteArray SmB) (hi:a0X P ti Int I64):a0X P t Sbu (fun _=>True):=by
 intro H enc w base spare held fuel cs x h;obtain⟨hl,hall⟩:=a0U hf h;rw[hc]at hl
 obtain⟨a0,r0_,rfl,l0_⟩:=a0f hl;obtain⟨a1,r1_,rfl,l1_⟩:=a0f l0_;obtain⟨a2,r2_,rfl,l2_⟩:=a0f l1_;obtain⟨a3,r3_,rfl,l3_⟩:=a0f l2_;obtain⟨a4,r4_,rfl,l4_⟩:=a0f l3_;obtain rfl:=a2y l4_;obtain⟨n0,y0,h0⟩:=hall (ts,0,1) (by simp);obtain⟨x0,e0,g0⟩:=hs enc w base spare held n0 _ y0 h0;have e0:[a0]=[.string x0]:=e0
 cases e0
 obtain⟨n1,y1,h1⟩:=hall (ts,1,1) (by simp);obtain⟨x1,e1,g1⟩:=hs enc w base spare held n1 _ y1 h1;have e1:[a1]=[.string x1]:=e1
 cases e1
 obtain⟨n2,y2,h2⟩:=hall (ts,2,1) (by simp);obtain⟨x2,e2,g2⟩:=hs enc w base spare held n2 _ y2 h2;have e2:[a2]=[.string x2]:=e2
 cases e2
 obtain⟨n3,y3,h3⟩:=hall (ts,3,1) (by simp);obtain⟨x3,e3,g3⟩:=hs enc w base spare held n3 _ y3 h3;have e3:[a3]=[.string x3]:=e3
 cases e3
 obtain⟨n4,y4,h4⟩:=hall (ti,4,1) (by simp);obtain⟨x4,e4,g4⟩:=hi enc w base spare held n4 _ y4 h4;have e4:[a4]=[.int .i64 x4]:=e4
 cases e4
 exact⟨⟨x0,x1,x2,x3,x4⟩,rfl,trivial⟩
theorem c3o {ti ts:TypeId} (hf:a0C P t=some [(ti,0,1),(ts,1,1),(ts,2,1)]) (hc:P.cellsOf t=3) (hi:a0X P ti Int I64) (hs:a0X P ts ByteArray SmB):a0X P t Flt (fun _=>True):=by
 intro H enc w base spare held fuel cs x h;obtain⟨hl,hall⟩:=a0U hf h;rw[hc]at hl
 obtain⟨a0,r0_,rfl,l0_⟩:=a0f hl;obtain⟨a1,r1_,rfl,l1_⟩:=a0f l0_;obtain⟨a2,r2_,rfl,l2_⟩:=a0f l1_;obtain rfl:=a2y l2_;obtain⟨n0,y0,h0⟩:=hall (ti,0,1) (by simp);obtain⟨x0,e0,g0⟩:=hi enc w base spare held n0 _ y0 h0;have e0:[a0]=[.int .i64 x0]:=e0
 cases e0
 obtain⟨n1,y1,h1⟩:=hall (ts,1,1) (by simp);obtain⟨x1,e1,g1⟩:=hs enc w base spare held n1 _ y1 h1;have e1:[a1]=[.string x1]:=e1
 cases e1
 obtain⟨n2,y2,h2⟩:=hall (ts,2,1) (by simp);obtain⟨x2,e2,g2⟩:=hs enc w base spare held n2 _ y2 h2;have e2:[a2]=[.string x2]:=e2
 cases e2
 exact⟨⟨x0,x1,x2⟩,rfl,trivial⟩
theorem c3s {ts tx:TypeId} (hf:a0C P t=some [(ts,0,1),(ts,1,1),(tx,2,6)]) (hc:P.cellsOf t=8) (hs:a0X P ts ByteArray SmB) (hx:a0X P tx Xp OkXp):a0X P t Rul b2J:=by
 intro H enc w base spare held fuel cs x h;obtain⟨hl,hall⟩:=a0U hf h;rw[hc]at hl
 obtain⟨a0,r0_,rfl,l0_⟩:=a0f hl;obtain⟨a1,r1_,rfl,l1_⟩:=a0f l0_;obtain⟨a2,r2_,rfl,l2_⟩:=a0f l1_;obtain⟨a3,r3_,rfl,l3_⟩:=a0f l2_;obtain⟨a4,r4_,rfl,l4_⟩:=a0f l3_;obtain⟨a5,r5_,rfl,l5_⟩:=a0f l4_;obtain⟨a6,r6_,rfl,l6_⟩:=a0f l5_;obtain⟨a7,r7_,rfl,l7_⟩:=a0f l6_;obtain rfl:=a2y l7_;obtain⟨n0,y0,h0⟩:=hall (ts,0,1) (by simp);obtain⟨x0,e0,g0⟩:=hs enc w base spare held n0 _ y0 h0;have e0:[a0]=[.string x0]:=e0
 cases e0
 obtain⟨n1,y1,h1⟩:=hall (ts,1,1) (by simp);obtain⟨x1,e1,g1⟩:=hs enc w base spare held n1 _ y1 h1;have e1:[a1]=[.string x1]:=e1
 cases e1
 obtain⟨n2,y2,h2⟩:=hall (tx,2,6) (by simp);obtain⟨x2,q2,g2⟩:=hx enc w base spare held n2 _ y2 h2;have q2:XpRd (Iw w) [a2,a3,a4,a5,a6,a7] x2:=q2;obtain⟨s2,e2,q2⟩:=b1v q2
 simp only[Xp.cs,List.cons.injEq,and_true]at e2
 obtain⟨rfl,rfl,rfl,rfl,rfl,rfl⟩:=e2;exact⟨⟨x0,x1,x2⟩,⟨_,rfl,q2⟩,⟨g0,g1,g2⟩⟩
theorem c3p {ts tl:TypeId} (hf:a0C P t=some [(ts,0,1),(ts,1,1),(tl,2,1),(tl,3,1)]) (hc:P.cellsOf t=4) (hs:a0X P ts ByteArray SmB) (hl2:a0X P tl (List Int) (fun l=>∀x∈l,I64 x)):a0X P t Hld (fun _=>True):=by
 intro H enc w base spare held fuel cs x h;obtain⟨hl,hall⟩:=a0U hf h;rw[hc]at hl
 obtain⟨a0,r0_,rfl,l0_⟩:=a0f hl;obtain⟨a1,r1_,rfl,l1_⟩:=a0f l0_;obtain⟨a2,r2_,rfl,l2_⟩:=a0f l1_;obtain⟨a3,r3_,rfl,l3_⟩:=a0f l2_;obtain rfl:=a2y l3_;obtain⟨n0,y0,h0⟩:=hall (ts,0,1) (by simp);obtain⟨x0,e0,g0⟩:=hs enc w base spare held n0 _ y0 h0;have e0:[a0]=[.string x0]:=e0
 cases e0
 obtain⟨n1,y1,h1⟩:=hall (ts,1,1) (by simp);obtain⟨x1,e1,g1⟩:=hs enc w base spare held n1 _ y1 h1;have e1:[a1]=[.string x1]:=e1
 cases e1
 obtain⟨n2,y2,h2⟩:=hall (tl,2,1) (by simp);obtain⟨x2,⟨v2,e2,q2⟩,g2⟩:=hl2 enc w base spare held n2 _ y2 h2;have e2:[a2]=[v2]:=e2
 cases e2
 obtain⟨n3,y3,h3⟩:=hall (tl,3,1) (by simp);obtain⟨x3,⟨v3,e3,q3⟩,g3⟩:=hl2 enc w base spare held n3 _ y3 h3;have e3:[a3]=[v3]:=e3
 cases e3
 exact⟨⟨x0,x1,x2,x3⟩,⟨_,_,rfl,q2,q3⟩,trivial⟩
theorem c3k {tr tu td tc th:TypeId} (hf:a0C P t=some [(tr,0,1),(tu,1,1),(td,2,1),(tc,3,1),(tr,4,1),(th,5,1)]) (hc:P.cellsOf t=6) (hr:a0X P tr (List Rul) (fun l=>∀x∈l,b2J x)) (hu:a0X P tu (List Sbu) (fun l=>∀x∈l,True)) (hd:a0X P td (List Dut) (fun l=>∀x∈l,SmD x)) (hcn:a0X P tc (List Cnc) (fun l=>∀x∈l,True)) (hh:a0X P th (List Hld) (fun l=>∀x∈l,True)):a0X P t Bok OkBk:=by
 intro H enc w base spare held fuel cs x h;obtain⟨hl,hall⟩:=a0U hf h;rw[hc]at hl
 obtain⟨a0,r0_,rfl,l0_⟩:=a0f hl;obtain⟨a1,r1_,rfl,l1_⟩:=a0f l0_;obtain⟨a2,r2_,rfl,l2_⟩:=a0f l1_;obtain⟨a3,r3_,rfl,l3_⟩:=a0f l2_;obtain⟨a4,r4_,rfl,l4_⟩:=a0f l3_;obtain⟨a5,r5_,rfl,l5_⟩:=a0f l4_;obtain rfl:=a2y l5_;obtain⟨n0,y0,h0⟩:=hall (tr,0,1) (by simp);obtain⟨x0,⟨v0,e0,q0⟩,g0⟩:=hr enc w base spare held n0 _ y0 h0;have e0:[a0]=[v0]:=e0
 cases e0
 obtain⟨n1,y1,h1⟩:=hall (tu,1,1) (by simp);obtain⟨x1,⟨v1,e1,q1⟩,g1⟩:=hu enc w base spare held n1 _ y1 h1;have e1:[a1]=[v1]:=e1
 cases e1
 obtain⟨n2,y2,h2⟩:=hall (td,2,1) (by simp);obtain⟨x2,⟨v2,e2,q2⟩,g2⟩:=hd enc w base spare held n2 _ y2 h2;have e2:[a2]=[v2]:=e2
 cases e2
 obtain⟨n3,y3,h3⟩:=hall (tc,3,1) (by simp);obtain⟨x3,⟨v3,e3,q3⟩,g3⟩:=hcn enc w base spare held n3 _ y3 h3;have e3:[a3]=[v3]:=e3
 cases e3
 obtain⟨n4,y4,h4⟩:=hall (tr,4,1) (by simp);obtain⟨x4,⟨v4,e4,q4⟩,g4⟩:=hr enc w base spare held n4 _ y4 h4;have e4:[a4]=[v4]:=e4
 cases e4
 obtain⟨n5,y5,h5⟩:=hall (th,5,1) (by simp);obtain⟨x5,⟨v5,e5,q5⟩,g5⟩:=hh enc w base spare held n5 _ y5 h5;have e5:[a5]=[v5]:=e5
 cases e5
 exact⟨⟨x0,x1,x2,x3,x4,x5⟩,⟨_,_,_,_,_,_,rfl,⟨q0,q1,q2,q3,q4,q5⟩⟩,⟨g0,g4,g2⟩⟩
theorem c3v {ti tf tl tg:TypeId} (hf:a0C P t=some [(ti,0,1),(tf,1,3),(tl,4,1),(tg,5,1)]) (hc:P.cellsOf t=6) (hi:a0X P ti Int I64) (hfm:a0X P tf Fm OkFm) (hl2:a0X P tl (List Int) (fun l=>∀x∈l,I64 x)) (hg:a0X P tg (List Flt) (fun l=>∀x∈l,True)):a0X P t Vdt (fun _=>True):=by
 intro H enc w base spare held fuel cs x h;obtain⟨hl,hall⟩:=a0U hf h;rw[hc]at hl
 obtain⟨a0,r0_,rfl,l0_⟩:=a0f hl;obtain⟨a1,r1_,rfl,l1_⟩:=a0f l0_;obtain⟨a2,r2_,rfl,l2_⟩:=a0f l1_;obtain⟨a3,r3_,rfl,l3_⟩:=a0f l2_;obtain⟨a4,r4_,rfl,l4_⟩:=a0f l3_;obtain⟨a5,r5_,rfl,l5_⟩:=a0f l4_;obtain rfl:=a2y l5_;obtain⟨n0,y0,h0⟩:=hall (ti,0,1) (by simp);obtain⟨x0,e0,g0⟩:=hi enc w base spare held n0 _ y0 h0;have e0:[a0]=[.int .i64 x0]:=e0
 cases e0
 obtain⟨n1,y1,h1⟩:=hall (tf,1,3) (by simp);obtain⟨x1,q1,g1⟩:=hfm enc w base spare held n1 _ y1 h1;have q1:FmRd (Iw w) [a1,a2,a3] x1:=q1;obtain⟨s1,e1,q1⟩:=a2k q1
 simp only[List.cons.injEq,and_true]at e1
 obtain⟨rfl,rfl,rfl⟩:=e1;obtain⟨n2,y2,h2⟩:=hall (tl,4,1) (by simp);obtain⟨x2,⟨v2,e2,q2⟩,g2⟩:=hl2 enc w base spare held n2 _ y2 h2;have e2:[a4]=[v2]:=e2
 cases e2
 obtain⟨n3,y3,h3⟩:=hall (tg,5,1) (by simp);obtain⟨x3,⟨v3,e3,q3⟩,g3⟩:=hg enc w base spare held n3 _ y3 h3;have e3:[a5]=[v3]:=e3
 cases e3
 exact⟨⟨x0,x1,x2,x3⟩,⟨_,_,_,rfl,⟨q1,q2,q3⟩⟩,trivial⟩
end
end Go.Sx
set_option linter.all false
namespace Go.Sx
open Go
structure HN (n:Nat) (g:Prop):Prop where
 out:g
theorem HN.z {s:Prop} (h:HN 0 s):s:=h.out
theorem HN.p {s:Prop} {n:Nat} (h:HN (n+1) s):HN n s:=⟨h.out⟩
structure HD (i n:Nat) (g:Prop):Prop where
 out:g
theorem HD.z {i:Nat} {s:Prop} (h:HD i 0 s):s:=h.out
theorem HD.p {s:Prop} {i n:Nat} (h:HD i (n+1) s):HD (i+1) n s:=⟨h.out⟩
class Has {α:Type} (a:Option α) (b:outParam α):Prop where
 eq:a=some b
theorem he {α:Type} {a:Option α} {b:α} [h:Has a b]:a=some b:=h.eq
theorem hk {α:Type} {a:Option α} {b:α} (h:a=some b:=by kernel_rfl):Has a b:=⟨h⟩
theorem sb {L L':LL} (h:Sub L' L:=by repeat (first|exact trivial|refine⟨rfl,?_⟩)):Sub L' L:=h
section
variable {P:Program} {ρ:Option Nat} {n:Sz} {E:Ent} {I I':IMap} {L L':LL} {H H':List Res} {K K':Act→World→Prop} {Q:Exit→Act→World→Prop} {ops:Array Oper}
theorem cb {c:Operand} {x y:Code} {b:Bool} {p q:Prop} (hc:ev L c=some (.bool b)) (ht:b=true→p→SX n E I L H (x.wq ρ P Q)) (hf:b=false→q→SX n E I L H (y.wq ρ P Q))
  (e1:b=true→p:=by first|(intro h;simp only[bO]at h;exact h)|exact fun h=>h) (e2:b=false→q:=by first|(intro h;simp only[bO]at h;exact h)|exact fun h=>h) :
  SX n E I L H ((Code.cond c x y).wq ρ P Q):=d3G hc (fun h=>ht h (e1 h)) (fun h=>hf h (e2 h))
theorem sxb {v:Bool} {p q:Prop} (t:Nat) (h:look L t=some (.bool v)) (h1:v=true→p→SX n E I L H K) (h2:v=false→q→SX n E I L H K)
  (e1:v=true→p:=by first|(intro h;simp only[bO]at h;exact h)|exact fun h=>h) (e2:v=false→q:=by first|(intro h;simp only[bO]at h;exact h)|exact fun h=>h):SX n E I L H K:=c8o t h (fun h=>h1 h (e1 h)) (fun h=>h2 h (e2 h))
theorem d8F {b o:Nat} {cs:List Value} {v:Value} (c:ICells I b o cs) (h:cs[0]? = some v):ICell I b o v:=c 0 v h
theorem ldI {b o j:Nat} {cs:List Value} {v:Value} (c:ICells I b o cs) (h:cs[j]? = some v):ICell I b (o+j) v:=c j v h
variable {d ty:Nat} {pos:String} {af:Array Edge} {x y z:Operand} {tt tx tyy q:Nat} {v:Value}
theorem d1Q (h:OV P n E I L H ⟨some d,.move x,ty,pos,af,none⟩ v):OV P n E I L H ⟨some d,.move x,ty,pos,af,none⟩ v:=h
theorem c3N (h:OV P n E I L H ⟨some d,.assign x,ty,pos,af,none⟩ v):OV P n E I L H ⟨some d,.assign x,ty,pos,af,none⟩ v:=h
theorem b5h (h:OV P n E I L H ⟨some d,.fieldAddr tt x q,ty,pos,af,none⟩ v):OV P n E I L H ⟨some d,.fieldAddr tt x q,ty,pos,af,none⟩ v:=h
theorem d1P (h:OV P n E I L H ⟨some d,.load tt x,ty,pos,af,none⟩ v):OV P n E I L H ⟨some d,.load tt x,ty,pos,af,none⟩ v:=h
theorem c7o (h:OV P n E I L H ⟨some d,.field tt x q,ty,pos,af,none⟩ v):OV P n E I L H ⟨some d,.field tt x q,ty,pos,af,none⟩ v:=h
theorem c0u (h:OV P n E I L H ⟨some d,.extract x q,ty,pos,af,none⟩ v):OV P n E I L H ⟨some d,.extract x q,ty,pos,af,none⟩ v:=h
theorem d5l (h:OV P n E I L H ⟨some d,.unOp .not tt x,ty,pos,af,none⟩ v):OV P n E I L H ⟨some d,.unOp .not tt x,ty,pos,af,none⟩ v:=h
theorem d5k (h:OV P n E I L H ⟨some d,.nilCheck x,ty,pos,af,none⟩ v):OV P n E I L H ⟨some d,.nilCheck x,ty,pos,af,none⟩ v:=h
theorem d1R (h:OV P n E I L H ⟨some d,.pick x y z,ty,pos,af,none⟩ v):OV P n E I L H ⟨some d,.pick x y z,ty,pos,af,none⟩ v:=h
theorem d5i (h:OV P n E I L H ⟨some d,.binOp .lss tx x y tyy,ty,pos,af,none⟩ v):OV P n E I L H ⟨some d,.binOp .lss tx x y tyy,ty,pos,af,none⟩ v:=h
theorem d5h (h:OV P n E I L H ⟨some d,.binOp .leq tx x y tyy,ty,pos,af,none⟩ v):OV P n E I L H ⟨some d,.binOp .leq tx x y tyy,ty,pos,af,none⟩ v:=h
theorem d5e (h:OV P n E I L H ⟨some d,.binOp .gtr tx x y tyy,ty,pos,af,none⟩ v):OV P n E I L H ⟨some d,.binOp .gtr tx x y tyy,ty,pos,af,none⟩ v:=h
theorem d5d (h:OV P n E I L H ⟨some d,.binOp .geq tx x y tyy,ty,pos,af,none⟩ v):OV P n E I L H ⟨some d,.binOp .geq tx x y tyy,ty,pos,af,none⟩ v:=h
theorem d5c (h:OV P n E I L H ⟨some d,.binOp .eql tx x y tyy,ty,pos,af,none⟩ v):OV P n E I L H ⟨some d,.binOp .eql tx x y tyy,ty,pos,af,none⟩ v:=h
theorem d5j (h:OV P n E I L H ⟨some d,.binOp .neq tx x y tyy,ty,pos,af,none⟩ v):OV P n E I L H ⟨some d,.binOp .neq tx x y tyy,ty,pos,af,none⟩ v:=h
theorem d5b (h:OV P n E I L H ⟨some d,.binOp .add tx x y tyy,ty,pos,af,none⟩ v):OV P n E I L H ⟨some d,.binOp .add tx x y tyy,ty,pos,af,none⟩ v:=h
theorem d5m (h:OV P n E I L H ⟨some d,.binOp .sub tx x y tyy,ty,pos,af,none⟩ v):OV P n E I L H ⟨some d,.binOp .sub tx x y tyy,ty,pos,af,none⟩ v:=h
theorem c7n {ps:Array (Nat×Operand)} (h:OV P n E I L H ⟨some d,.build tt ps,ty,pos,af,none⟩ v):OV P n E I L H ⟨some d,.build tt ps,ty,pos,af,none⟩ v:=h
theorem b6L {fn:Fn} {a b:Array Operand} (h:OV P n E I L H ⟨some d,.makeFunc fn a b,ty,pos,af,none⟩ v):OV P n E I L H ⟨some d,.makeFunc fn a b,ty,pos,af,none⟩ v:=h
theorem d5f (h:OV P n E I L H ⟨some d,.indexAddr tt x y,ty,pos,af,none⟩ v):OV P n E I L H ⟨some d,.indexAddr tt x y,ty,pos,af,none⟩ v:=h
theorem d5g (h:OV P n E I L H ⟨some d,.call { callee:=.builtin .len,args:=#[x],argTypes:=#[tx] },ty,pos,af,none⟩ v):OV P n E I L H ⟨some d,.call { callee:=.builtin .len,args:=#[x],argTypes:=#[tx] },ty,pos,af,none⟩ v:=h
theorem va {o:Oper} (h:OV P n E I L H o v:=by
  first
   |((with_unfolding_none refine' d1Q ?_);rotate_left;exact b5D rfl)
   |((with_unfolding_none refine' c3N ?_);rotate_left;exact b9g rfl)
   |((with_unfolding_none refine' b5h ?_);rotate_left;exact b7k he rfl)
   |((with_unfolding_none refine' d1P ?_);rotate_left;(first|exact b1m m0 he rfl rfl|exact b1m m1 he rfl rfl|exact b1m m2 he rfl rfl|exact b1m m3 he rfl rfl|exact b1m m4 he rfl rfl|exact b1m m5 he rfl rfl|exact b1m m6 he rfl rfl|exact a2N m0 he rfl rfl|exact a2N m1 he rfl rfl|exact a2N m2 he rfl rfl|exact a2N m3 he rfl rfl|exact a2N m4 he rfl rfl|exact a2N m5 he rfl rfl|exact a2N m6 he rfl rfl|exact a0S he rfl (by assumption) rfl|exact a0v he rfl (by refine' d8F ?_ ?_;first|(rotate_left;assumption;exact rfl)|(rotate_left 2;assumption;exact rfl))|exact a0v he rfl (by refine' ldI ?_ ?_;first|(rotate_left;assumption;exact rfl)|(rotate_left 2;assumption;exact rfl))))
   |((with_unfolding_none refine' d1R ?_);rotate_left;(first|exact c4I rfl rfl|exact c9w rfl rfl|exact b3P rfl rfl rfl|exact c9v rfl rfl rfl|exact c4I (by assumption) rfl|exact c9w (by assumption) rfl|exact b3P (by assumption) rfl rfl|exact c9v (by assumption) rfl rfl))
   |((with_unfolding_none refine' d5i ?_);rotate_left;(first|exact b7m rfl rfl|exact d5Y rfl rfl))
   |((with_unfolding_none refine' d5g ?_);rotate_left;(first|exact a3M he rfl|exact c4O he rfl))
   |((with_unfolding_none refine' c0u ?_);rotate_left;exact a2M rfl rfl)
   |((with_unfolding_none refine' d5l ?_);rotate_left;exact b1O rfl)
   |((with_unfolding_none refine' d5c ?_);rotate_left;(first|exact c4K rfl rfl|exact d5U rfl rfl))
   |((with_unfolding_none refine' d5j ?_);rotate_left;(first|exact b7n rfl rfl|exact d6b rfl rfl))
   |((with_unfolding_none refine' d5h ?_);rotate_left;(first|exact d2R rfl rfl|exact d5X rfl rfl))
   |((with_unfolding_none refine' d5e ?_);rotate_left;(first|exact c4M rfl rfl|exact d5W rfl rfl))
   |((with_unfolding_none refine' d5d ?_);rotate_left;(first|exact b7l rfl rfl|exact d5V rfl rfl))
   |((with_unfolding_none refine' d5b ?_);rotate_left;exact a2u rfl rfl ⟨oM,oM⟩)
   |((with_unfolding_none refine' d5m ?_);rotate_left;exact a1j rfl rfl ⟨oM,oM⟩)
   |((with_unfolding_none refine' d5k ?_);rotate_left;exact c0Q rfl)
   |((with_unfolding_none refine' c7n ?_);rotate_left;exact d2O he he rfl rfl)
   |((with_unfolding_none refine' b6L ?_);rotate_left;exact c0P rfl rfl)
   |((with_unfolding_none refine' d5f ?_);rotate_left;exact a0l he rfl rfl (by assumption) _ (by first|exact rfl|omega) oM)
   |((with_unfolding_none refine' c7o ?_);rotate_left;(first|exact d2P he rfl rfl|exact c8v _ he rfl rfl))):OV P n E I L H o v:=h
theorem d8K {rest:List Oper} {op:Op} {v:Value} (hd:Nat.blt d n.sz=true) (h:OV P n E I L H ⟨some d,op,ty,pos,af,none⟩ v) (k:SX n E I ((d,v)::L) H (wpL P ops Q rest)):SX n E I L H (wpL P ops Q (⟨some d,op,ty,pos,af,none⟩::rest)):=o_v hd h k
theorem d8L {rest:List Oper} {op:Op} {j:Nat} {b:Bool} {v:Value} {t:Nat} {c:Bool} (ht:(ops[j]?).bind (·.dst)=some t) (hb:look L t=some (.bool c)) (hv:c=b) (hd:Nat.blt d n.sz=true) (h:OV P n E I L H ⟨some d,op,ty,pos,af,none⟩ v) (k:SX n E I ((d,v)::L) H (wpL P ops Q rest)):SX n E I L H (wpL P ops Q (⟨some d,op,ty,pos,af,some (j,b)⟩::rest)):=a0z (a0n ht hb hv (a0q hd h k))
theorem d8H {rest:List Oper} {op:Op} {j:Nat} {b:Bool} {t:Nat} {c:Bool} (ht:(ops[j]?).bind (·.dst)=some t) (hb:look L t=some (.bool c)) (hv:c = !b) (hd:Nat.blt d n.sz=true) (k:SX n E I ((d,undef)::L) H (wpL P ops Q rest)):SX n E I L H (wpL P ops Q (⟨some d,op,ty,pos,af,some (j,b)⟩::rest)):=a0z (d8I ht hb hv hd k)
theorem d7L {rest:List Oper} {op:Op} {j:Nat} {b:Bool} {t:Nat} {c:Bool} (ht:(ops[j]?).bind (·.dst)=some t) (hb:look L t=some (.bool c)) (hv:c = !b) (k:SX n E I L H (wpL P ops Q rest)):SX n E I L H (wpL P ops Q (⟨none,op,ty,pos,af,some (j,b)⟩::rest)):=a0z (d7N ht hb hv k)
theorem d8J {rest:List Oper} {op:Op} {j:Nat} {b:Bool} {t:Nat} (ht:(ops[j]?).bind (·.dst)=some t) (hb:look L t=some undef) (hd:Nat.blt d n.sz=true) (k:SX n E I ((d,undef)::L) H (wpL P ops Q rest)):SX n E I L H (wpL P ops Q (⟨some d,op,ty,pos,af,some (j,b)⟩::rest)):=a0z (d7O ht hb hd k)
variable {ρ:Option Nat} {F:List Res} {I0:IMap} {listed:Array Bool} {fuel:Nat} {fn:Func} {R:Ending→World→Prop} {k m:Nat}
theorem c7q (h:SX n E I L H (one P ops Q ⟨none,.store tt x y,ty,pos,af,none⟩ K)):SX n E I L H (one P ops Q ⟨none,.store tt x y,ty,pos,af,none⟩ K):=h
theorem c7p (h:SX n E I L H (one P ops Q ⟨some d,.alloc tt,ty,pos,af,none⟩ K)):SX n E I L H (one P ops Q ⟨some d,.alloc tt,ty,pos,af,none⟩ K):=h
theorem d5o (h:SX n E I L H (one P ops Q ⟨some d,.box tt x,ty,pos,af,none⟩ K)):SX n E I L H (one P ops Q ⟨some d,.box tt x,ty,pos,af,none⟩ K):=h
theorem d7R {ps:Array (Nat×Operand)} (h:SX n E I L H (one P ops Q ⟨some d,.buildSlice tt m ps,ty,pos,af,none⟩ K)):SX n E I L H (one P ops Q ⟨some d,.buildSlice tt m ps,ty,pos,af,none⟩ K):=h
theorem d5r (h:SX n E I L H (b3U P fn R .ret)):SX n E I L H (b3U P fn R .ret):=h
theorem d5p (h:SX n E I L H (b3U P fn R .normal)):SX n E I L H (b3U P fn R .normal):=h
theorem d5n (h:SX n E I L H (a1f P ops (NQ Q) (a0Z E I0 F) fuel listed)):SX n E I L H (a1f P ops (NQ Q) (a0Z E I0 F) fuel listed):=h
theorem d1T (h:SX n E I L H (fun a w=>a0Z E I0 F w∧K a w)):SX n E I L H (fun a w=>a0Z E I0 F w∧K a w):=h
theorem d5q {id:Nat} {l:Array Oper} (h:SX n E I L H ((Code.region id l true).wq ρ P Q)):SX n E I L H ((Code.region id l true).wq ρ P Q):=h
theorem d1S {c:Operand} {x y:Code} (h:SX n E I L H ((Code.cond c x y).wq ρ P Q)):SX n E I L H ((Code.cond c x y).wq ρ P Q):=h
theorem rv {r:ResultVar} {v:Value} (h:RV P L H r v:=by
  first
   |exact rfl
   |exact⟨_,_,_,rfl,m0,.inr ⟨_,he,rfl,rfl⟩⟩|exact⟨_,_,_,rfl,m0,.inl ⟨he,rfl⟩⟩
   |exact⟨_,_,_,rfl,m1,.inr ⟨_,he,rfl,rfl⟩⟩|exact⟨_,_,_,rfl,m1,.inl ⟨he,rfl⟩⟩
   |exact⟨_,_,_,rfl,m2,.inr ⟨_,he,rfl,rfl⟩⟩|exact⟨_,_,_,rfl,m2,.inl ⟨he,rfl⟩⟩
   |exact⟨_,_,_,rfl,m3,.inr ⟨_,he,rfl,rfl⟩⟩|exact⟨_,_,_,rfl,m3,.inl ⟨he,rfl⟩⟩
   |exact⟨_,_,_,rfl,m4,.inr ⟨_,he,rfl,rfl⟩⟩|exact⟨_,_,_,rfl,m4,.inl ⟨he,rfl⟩⟩):RV P L H r v:=h
theorem sl {F:List Res} (h:List.Sublist F H:=by repeat (first|exact .refl _|exact .slnil|exact List.nil_sublist _|refine .cons₂ _ ?_|refine .cons _ ?_)):List.Sublist F H:=h
theorem kp (h:∀w,Mem E I H w→a0Z E I0 F w:=by
  first
   |exact fun _ m=>m.keeps sl
   |exact fun _ m=>m.keepsI sl (by repeat (first|assumption|exact ILe.refl _|refine ILe.trans ?_ (by assumption))) (by assumption) (by assumption)):∀w,Mem E I H w→a0Z E I0 F w:=h
theorem gg {g s:Prop} {n:Nat} (h0:HN n s) (h:HN n s→g:=by
  intro h
  repeat (first
   |exact HN.z h
   |replace h:=HN.p h;first
    |((with_unfolding_none refine' d8K ?_ ?_ ?_);rotate_left;exact rfl;exact va)
    |with_unfolding_none refine d5t ?_
    |with_unfolding_none refine d7M ?_
    |with_unfolding_none refine d7a ?_
    |with_unfolding_none refine c5A ?_
    |with_unfolding_none refine d3I ?_
    |with_unfolding_none refine c0y ?_
    |with_unfolding_none refine d6Z ?_
    |with_unfolding_none refine c9P ?_
    |with_unfolding_none refine d1V ?_
    |with_unfolding_none refine b6P ?_
    |with_unfolding_none refine b6N ?_
    |with_unfolding_none refine d3H ?_
    |with_unfolding_none refine c0w ?_
    |((with_unfolding_none refine' d8H ?_ ?_ ?_ ?_ ?_);rotate_left 2;exact rfl;exact rfl;(first|exact rfl|assumption);exact rfl)
    |((with_unfolding_none refine' d8J ?_ ?_ ?_ ?_);rotate_left;exact rfl;exact rfl;exact rfl)
    |((with_unfolding_none refine' d7L ?_ ?_ ?_ ?_);rotate_left 2;exact rfl;exact rfl;(first|exact rfl|assumption))
    |((with_unfolding_none refine' d8L ?_ ?_ ?_ ?_ ?_ ?_);rotate_left 3;exact rfl;exact rfl;(first|exact rfl|assumption);exact rfl;exact va)
    |((with_unfolding_none refine c0x ?_ ?_);exact rfl)
    |((with_unfolding_none refine c7q ?_);first|refine a0Y _ he rfl rfl rfl rfl rfl rfl ?_|refine a8C he rfl rfl rfl rfl ?_|refine d7P _ _ he rfl rfl rfl rfl rfl rfl rfl ?_)
    |((with_unfolding_none refine d1T ?_);refine d3g kp ?_)
    |((with_unfolding_none refine d5n ?_);refine d3S (by kernel_rfl) ?_)
    |((with_unfolding_none refine d5r ?_);first|refine d8C rfl rv ?_|refine d8D rfl rv rv ?_|refine d8B rfl ?_|refine d8p rfl rv rv rv ?_|refine d8E rfl rv rv rv rv ?_)
    |((with_unfolding_none refine d5p ?_);refine d8A rfl ?_)
    |((with_unfolding_none refine d1S ?_);first|refine d3J rfl ?_|refine c9R rfl ?_)
    |((with_unfolding_none refine c7p ?_);refine d1s he rfl ?_)
    |((with_unfolding_none refine d5q ?_);refine c5L (by kernel_rfl) ?_)
    |((with_unfolding_none refine d5o ?_);refine d7K _ rfl rfl rfl ?_)
    |((with_unfolding_none refine d7R ?_);refine b4V he he rfl rfl rfl rfl rfl rfl rfl ?_)
    |with_unfolding_none refine a0z ?_)):g:=h h0
theorem go {g s:Prop} (n:Nat) (hs:s) (h:HN n s→g:=by intro h;exact gg h):g:=h ⟨hs⟩
theorem gC {g:Prop} {c:Operand} {x y:Code} {b:Bool} {p q:Prop} (k:Nat) (ht:b=true→p→SX n E I L H (x.wq ρ P Q)) (hf:b=false→q→SX n E I L H (y.wq ρ P Q))
  (h:HN k (SX n E I L H ((Code.cond c x y).wq ρ P Q))→g:=by intro h;exact gg h) (hc:ev L c=some (.bool b):=by exact rfl)
  (e1:b=true→p:=by first|(intro h;simp only[bO]at h;exact h)|exact fun h=>h) (e2:b=false→q:=by first|(intro h;simp only[bO]at h;exact h)|exact fun h=>h):g:=h ⟨cb hc ht hf e1 e2⟩
theorem gS {g:Prop} {v:Bool} {p q:Prop} (k t:Nat) (h1:v=true→p→SX n E I L H K) (h2:v=false→q→SX n E I L H K)
  (h:HN k (SX n E I L H K)→g:=by intro h;exact gg h) (hl:look L t=some (.bool v):=by exact rfl)
  (e1:v=true→p:=by first|(intro h;simp only[bO]at h;exact h)|exact fun h=>h) (e2:v=false→q:=by first|(intro h;simp only[bO]at h;exact h)|exact fun h=>h):g:=h ⟨sxb t hl h1 h2 e1 e2⟩
section
variable {s:Prop} {i m:Nat} {o:Oper} {l:List Oper}
theorem atL (hi:l[i]? = some o):l.toArray[i]? = some o:=by simpa using hi
theorem d3U (_:HD i m s) (hi:l[i]? = some o) (hdst:o.dst=some d) (hk:okC l.toArray listed i=true) (hd:Nat.blt d n.sz=true) (hs:List.Sublist F H)
  (hg:o.guard=none) (hv:OV P n E I L F o v) (k:SX n E I ((d,v)::L) H (a1f P l.toArray (NQ Q) (a0Z E I F) fuel (listed.setIfInBounds i true))) :
  SX n E I L H (a1f P l.toArray (NQ Q) (a0Z E I F) (fuel+1) listed):=a0F i (atL hi) hdst hk hd hs hg hv k
theorem c8T (_:HD i m s) (hi:l[i]? = some o) (hdst:o.dst=some d) (hk:okC l.toArray listed i=true) (hd:Nat.blt d n.sz=true)
  (hC:∀w,Mem E I H w→a0Z E I0 F w) (hv:∀a,St n a L→YieldsC P l.toArray (a0Z E I0 F) o v a) (k:SX n E I ((d,v)::L) H (a1f P l.toArray (NQ Q) (a0Z E I0 F) fuel (listed.setIfInBounds i true))) :
  SX n E I L H (a1f P l.toArray (NQ Q) (a0Z E I0 F) (fuel+1) listed):=d_t i (atL hi) hdst hk hd hC hv k
theorem d3T (_:HD i m s) (hr:Region.ready .any l.toArray listed=[i]) (hi:l[i]? = some o)
  (k:SX n E I L H (one P l.toArray (NQ Q) o fun a w=>a0Z E I0 F w∧a1f P l.toArray (NQ Q) (a0Z E I0 F) fuel (listed.setIfInBounds i true) a w)) :
  SX n E I L H (a1f P l.toArray (NQ Q) (a0Z E I0 F) (fuel+1) listed):=d7h i hr (atL hi) k
end
section
variable {o p q:Oper} {l:List Oper}
theorem ds1 {r:Res} {id:Nat} (h:SX n E I L (r::H) (a1f P l.toArray (NQ Q) (a0Z E I H) l.length (Array.replicate l.length false))) (hm:P.follows .mixedOrders=true:=by kernel_rfl):SX n E I L (r::H) ((Code.region id l.toArray true).wq ρ P Q):=b2R H hm h
theorem ds2 {r r2:Res} {id:Nat} (h:SX n E I L (r::r2::H) (a1f P l.toArray (NQ Q) (a0Z E I H) l.length (Array.replicate l.length false))) (hm:P.follows .mixedOrders=true:=by kernel_rfl):SX n E I L (r::r2::H) ((Code.region id l.toArray true).wq ρ P Q):=b2R H hm h
theorem dT2 (i j:Nat)
  (k1:SX n E I L H (one P l.toArray (NQ Q) o fun a w=>a0Z E I0 F w∧a1f P l.toArray (NQ Q) (a0Z E I0 F) fuel (listed.setIfInBounds i true) a w))
  (k2:SX n E I L H (one P l.toArray (NQ Q) p fun a w=>a0Z E I0 F w∧a1f P l.toArray (NQ Q) (a0Z E I0 F) fuel (listed.setIfInBounds j true) a w))
  (hr:Region.ready .any l.toArray listed=[i,j]:=by kernel_rfl) (hi:l[i]? = some o:=by exact rfl) (hj:l[j]? = some p:=by exact rfl) :
  SX n E I L H (a1f P l.toArray (NQ Q) (a0Z E I0 F) (fuel+1) listed):=d7i i j hr (atL hi) (atL hj) k1 k2
theorem dT3 (i j k:Nat)
  (k1:SX n E I L H (one P l.toArray (NQ Q) o fun a w=>a0Z E I0 F w∧a1f P l.toArray (NQ Q) (a0Z E I0 F) fuel (listed.setIfInBounds i true) a w))
  (k2:SX n E I L H (one P l.toArray (NQ Q) p fun a w=>a0Z E I0 F w∧a1f P l.toArray (NQ Q) (a0Z E I0 F) fuel (listed.setIfInBounds j true) a w))
  (k3:SX n E I L H (one P l.toArray (NQ Q) q fun a w=>a0Z E I0 F w∧a1f P l.toArray (NQ Q) (a0Z E I0 F) fuel (listed.setIfInBounds k true) a w))
  (hr:Region.ready .any l.toArray listed=[i,j,k]:=by kernel_rfl) (hi:l[i]? = some o:=by exact rfl) (hj:l[j]? = some p:=by exact rfl) (hk:l[k]? = some q:=by exact rfl) :
  SX n E I L H (a1f P l.toArray (NQ Q) (a0Z E I0 F) (fuel+1) listed):=d0j i j k hr (atL hi) (atL hj) (atL hk) k1 k2 k3
end
theorem dG {g s:Prop} (i n:Nat) (hs:s) (h:HD i n s→g:=by
  intro h
  try ((with_unfolding_none refine d1T ?_);refine d3g kp ?_)
  repeat (first
   |exact HD.z h
   |(first
     |refine d3U h rfl rfl (by kernel_rfl) rfl sl rfl va ?_
     |refine c8T h rfl rfl (by kernel_rfl) rfl kp (d8u rfl rfl (by first|exact rfl|assumption)) ?_
     |refine c8T h rfl rfl (by kernel_rfl) rfl kp (y_v rfl va) ?_
     |refine c8T h rfl rfl (by kernel_rfl) rfl kp (a1O rfl rfl (by first|exact rfl|assumption) va) ?_
     |refine c8T h rfl rfl (by kernel_rfl) rfl kp (d6u rfl rfl) ?_);replace h:=HD.p h)):g:=h ⟨hs⟩
theorem dH {g s:Prop} (i n:Nat) (hs:s) (h:HD i n s→g:=by
  intro h
  try ((with_unfolding_none refine d1T ?_);refine d3g kp ?_)
  repeat (first
   |(have h0:=HD.z h;refine d3T h (by kernel_rfl) rfl ?_;exact h0)
   |(first
     |refine d3U h rfl rfl (by kernel_rfl) rfl sl rfl va ?_
     |refine c8T h rfl rfl (by kernel_rfl) rfl kp (d8u rfl rfl (by first|exact rfl|assumption)) ?_
     |refine c8T h rfl rfl (by kernel_rfl) rfl kp (y_v rfl va) ?_
     |refine c8T h rfl rfl (by kernel_rfl) rfl kp (a1O rfl rfl (by first|exact rfl|assumption) va) ?_
     |refine c8T h rfl rfl (by kernel_rfl) rfl kp (d6u rfl rfl) ?_);replace h:=HD.p h)):g:=h ⟨hs⟩
end
section
variable {P:Program} {n:Sz} {E:Ent} {I I':IMap} {L:LL} {H:List Res} {K:Act→World→Prop} {Q:Exit→Act→World→Prop} {ops:Array Oper}
variable {d ty:Nat} {pos:String} {af:Array Edge} {fo:Operand} {as_:List Operand} {ats:Array TypeId} {f:FuncId} {args:List Value}
theorem cV {v:Value} (hc:FnV P f args.toArray I v) (k:SX n E I ((d,v)::L) H K) (h:a1w L fo as_=some (f,args):=by exact rfl) (hd:Nat.blt d n.sz=true:=by exact rfl) :
  SX n E I L H (one P ops Q ⟨some d,.call { callee:=.value fo,args:=as_.toArray,argTypes:=ats },ty,pos,af,none⟩ K):=a0y hc h hd k
end
end Go.Sx
namespace Go.Proofs.YtgmkjpafapgccaaGreat
open Go Go.Sx Tryz
set_option linter.all false
set_option maxRecDepth 20000
set_option maxHeartbeats 4000000
instance:Has (c8O prog 307) (256,5,1):=hk
instance:Has (tyK prog 307) (true,256):=hk
instance:Has (tyK prog 5) (false,1):=hk
instance T.und_3:Has (prog.underlying 3) (.int .i64):=hk
instance:Has (prog.underlying 5) (.int .u8):=hk
instance T.und_9:Has (prog.underlying 9) (.string):=hk
instance:Has (a1o prog 307) [.int .u8 0,.int .u8 0,.int .u8 0,.int .u8 0,.int .u8 0,.int .u8 0,.int .u8 0,.int .u8 0,.int .u8 0,.int .u8 0,.int .u8 0,.int .u8 0,.int .u8 0,.int .u8 0,.int .u8 0,.int .u8 0,.int .u8 0,.int .u8 0,.int .u8 0,.int .u8 0,.int .u8 0,.int .u8 0,.int .u8 0,.int .u8 0,.int .u8 0,.int .u8 0,.int .u8 0,.int .u8 0,.int .u8 0,.int .u8 0,.int .u8 0,.int .u8 0,.int .u8 0,.int .u8 0,.int .u8 0,.int .u8 0,.int .u8 0,.int .u8 0,.int .u8 0,.int .u8 0,.int .u8 0,.int .u8 0,.int .u8 0,.int .u8 0,.int .u8 0,.int .u8 0,.int .u8 0,.int .u8 0,.int .u8 0,.int .u8 0,.int .u8 0,.int .u8 0,.int .u8 0,.int .u8 0,.int .u8 0,.int .u8 0,.int .u8 0,.int .u8 0,.int .u8 0,.int .u8 0,.int .u8 0,.int .u8 0,.int .u8 0,.int .u8 0,.int .u8 0,.int .u8 0,.int .u8 0,.int .u8 0,.int .u8 0,.int .u8 0,.int .u8 0,.int .u8 0,.int .u8 0,.int .u8 0,.int .u8 0,.int .u8 0,.int .u8 0,.int .u8 0,.int .u8 0,.int .u8 0,.int .u8 0,.int .u8 0,.int .u8 0,.int .u8 0,.int .u8 0,.int .u8 0,.int .u8 0,.int .u8 0,.int .u8 0,.int .u8 0,.int .u8 0,.int .u8 0,.int .u8 0,.int .u8 0,.int .u8 0,.int .u8 0,.int .u8 0,.int .u8 0,.int .u8 0,.int .u8 0,.int .u8 0,.int .u8 0,.int .u8 0,.int .u8 0,.int .u8 0,.int .u8 0,.int .u8 0,.int .u8 0,.int .u8 0,.int .u8 0,.int .u8 0,.int .u8 0,.int .u8 0,.int .u8 0,.int .u8 0,.int .u8 0,.int .u8 0,.int .u8 0,.int .u8 0,.int .u8 0,.int .u8 0,.int .u8 0,.int .u8 0,.int .u8 0,.int .u8 0,.int .u8 0,.int .u8 0,.int .u8 0,.int .u8 0,.int .u8 0,.int .u8 0,.int .u8 0,.int .u8 0,.int .u8 0,.int .u8 0,.int .u8 0,.int .u8 0,.int .u8 0,.int .u8 0,.int .u8 0,.int .u8 0,.int .u8 0,.int .u8 0,.int .u8 0,.int .u8 0,.int .u8 0,.int .u8 0,.int .u8 0,.int .u8 0,.int .u8 0,.int .u8 0,.int .u8 0,.int .u8 0,.int .u8 0,.int .u8 0,.int .u8 0,.int .u8 0,.int .u8 0,.int .u8 0,.int .u8 0,.int .u8 0,.int .u8 0,.int .u8 0,.int .u8 0,.int .u8 0,.int .u8 0,.int .u8 0,.int .u8 0,.int .u8 0,.int .u8 0,.int .u8 0,.int .u8 0,.int .u8 0,.int .u8 0,.int .u8 0,.int .u8 0,.int .u8 0,.int .u8 0,.int .u8 0,.int .u8 0,.int .u8 0,.int .u8 0,.int .u8 0,.int .u8 0,.int .u8 0,.int .u8 0,.int .u8 0,.int .u8 0,.int .u8 0,.int .u8 0,.int .u8 0,.int .u8 0,.int .u8 0,.int .u8 0,.int .u8 0,.int .u8 0,.int .u8 0,.int .u8 0,.int .u8 0,.int .u8 0,.int .u8 0,.int .u8 0,.int .u8 0,.int .u8 0,.int .u8 0,.int .u8 0,.int .u8 0,.int .u8 0,.int .u8 0,.int .u8 0,.int .u8 0,.int .u8 0,.int .u8 0,.int .u8 0,.int .u8 0,.int .u8 0,.int .u8 0,.int .u8 0,.int .u8 0,.int .u8 0,.int .u8 0,.int .u8 0,.int .u8 0,.int .u8 0,.int .u8 0,.int .u8 0,.int .u8 0,.int .u8 0,.int .u8 0,.int .u8 0,.int .u8 0,.int .u8 0,.int .u8 0,.int .u8 0,.int .u8 0,.int .u8 0,.int .u8 0,.int .u8 0,.int .u8 0,.int .u8 0,.int .u8 0,.int .u8 0,.int .u8 0,.int .u8 0,.int .u8 0,.int .u8 0,.int .u8 0,.int .u8 0,.int .u8 0,.int .u8 0,.int .u8 0,.int .u8 0,.int .u8 0,.int .u8 0,.int .u8 0,.int .u8 0]:=hk
theorem b8j (I:IMap) (c:UInt8) :
    FnV prog 335 #[.int .u8 (c.toNat:Int)] I (.bool (a3p c)):=by
 refine enter func335 call335 rfl ntmps335 rfl fun w0=>?_;refine gS 10 5 (fun h5 p5=>?_) fun h5 p5=>?_
 ·refine gS 4 9 (fun h9 p9=>?_) fun h9 p9=>?_
  ·refine go 12 ?_;exact q_v (by simp[a3p,h5,h9])
  ·refine gS 3 12 (fun h12 p12=>?_) fun h12 p12=>?_
   ·refine go 9 ?_;exact q_v (by simp[a3p,h5,h9,h12])
   ·refine go 9 ?_;exact q_v (by simp[a3p,h5,h9,h12])
 ·refine gS 7 12 (fun h12 p12=>?_) fun h12 p12=>?_
  ·refine go 9 ?_;exact q_v (by simp[a3p,h5,h12])
  ·refine go 9 ?_;exact q_v (by simp[a3p,h5,h12])
theorem d0n (I:IMap) (c:UInt8) :
    FnV prog 350 #[.int .u8 (c.toNat:Int)] I (.bool (a2U c)):=by
 refine enter func350 call350 rfl ntmps350 rfl fun w0=>?_;refine gS 10 5 (fun h5 p5=>?_) fun h5 p5=>?_
 ·refine go 8 ?_;exact q_v (by simp[a2U,h5])
 ·refine go 8 ?_;exact q_v (by simp[a2U,h5])
theorem d6s (I:IMap) (c:UInt8) :
    FnV prog 334 #[.int .u8 (c.toNat:Int)] I (.bool (a7w c)):=by
 refine enter func334 call334 rfl ntmps334 rfl fun w0=>?_;refine go 9 ?_;refine cV (b8j _ c) ?_;refine gS 1 5 (fun h5 p5=>?_) fun h5 p5=>?_
 ·refine go 12 ?_;exact q_v (by simp[a7w,h5])
 ·refine go 2 ?_;refine a0n rfl rfl h5 (a0y (d0n _ c) rfl rfl ?_);refine gS 2 9 (fun h9 p9=>?_) fun h9 p9=>?_
  ·refine go 8 ?_;exact q_v (by simp[a7w,h5,h9])
  ·refine go 8 ?_;exact q_v (by simp[a7w,h5,h9])
theorem b4N (I:IMap) (s:ByteArray) (hs:s.size≤9223372036854775807) :
    FnV prog 306 #[.string s] I (.bool (a3D s)):=by
 refine enter func306 call306 rfl ntmps306 rfl fun w0=>?_;refine go 12 ?_
 refine a0x (α:=Nat) 0 (fun i=>I)
  (fun i=>[(0,.string s),(3,.int .i64 (i:Int))])
  (fun i=>[])
  (fun i=>i≤s.size∧a8U s i=true)
  (fun i=>s.size-i) ⟨Nat.zero_le _,rfl⟩ rfl sb rfl ?_
 intro i ⟨hi,hn⟩;refine gC 9 (fun h7 p7=>?_) fun h7 p7=>?_
 ·refine go 8 ?_;refine o_v rfl (c4R he rfl rfl i oM oM) ?_;refine go 1 ?_;refine cV (d6s _ _) ?_;refine gC 3 (fun h14 p14=>?_) fun h14 p14=>?_
  ·refine go 12 ?_;exact q_v (by simp[a3D,c5f (show i<s.size from oM) p14])
  ·refine go 9 ?_;exact a0w (i+1) ⟨oM,c0T hn p14⟩ oM rfl sb rfl
 ·refine gS 11 18 (fun h18 p18=>?_) fun h18 p18=>?_
  ·refine gS 5 23 (fun h23 p23=>?_) fun h23 p23=>?_
   ·refine go 1 ?_;refine a0z (a0n rfl rfl h23 (a0q rfl (c4R he rfl rfl 0 oM oM) ?_));refine go 1 ?_;refine a0n rfl rfl h23 (a0y (b8j _ _) rfl rfl ?_);refine go 6 ?_;exact q_v (by have e:i=s.size:=oM;subst e;simp only[a3D,hn,h7,h18,h23,bS])
   ·refine go 9 ?_;exact q_v (by have e:i=s.size:=oM;subst e;simp only[a3D,hn,h7,h18,h23,bS])
  ·refine go 14 ?_;exact q_v (by have e:i=s.size:=oM;subst e;simp only[a3D,hn,h7,h18,bS])
theorem a6U (args:Array Value) (w:World):(callFunc 339 args).run prog w=((Extern.BytealgIndexByte.indexByte args).run prog w).andThen fun v w'=>.ok (.value v) w':=by
 have h1:Extern.findNext Tryz.f339=none:=by kernel_rfl
 have h2:Extern.find Tryz.f339=some Extern.BytealgIndexByte.indexByte:=by kernel_rfl
 have h3 : (Tryz.f339.name == "runtime.NumGoroutine") = false := by kernel_rfl
 have h4:Tryz.f339.body.isNone=true:=rfl
 simp only[callFunc,Sem.run_bind,run_program,Result.andThen_ok,func339,h3,h4,h1,h2]
 simp
theorem b0y (I:IMap) (s:ByteArray) (c:UInt8):FnV prog 339 #[.string s,.int .u8 (c.toNat:Int)] I (.int .i64 (Lib.indexByte s.data.toList c)):=by
 refine⟨fun w m=>?_⟩;unfold After;rw[a6U,Lib.run_indexByteString];exact⟨_,I,[],rfl,m,by simp,rfl,rfl⟩
theorem b3c (I:IMap) (s:ByteArray) (c:UInt8) :
    FnV prog 314 #[.string s,.int .u8 (c.toNat:Int)] I (.int .i64 (Lib.indexByte s.data.toList c)):=by
 refine enter func314 call314 rfl ntmps314 rfl fun w0=>?_;refine go 10 ?_;refine cV (b0y I s c) ?_;refine go 5 ?_;exact q_v rfl
theorem indexByte (I:IMap) (s:ByteArray) (c:UInt8) :
    FnV prog 267 #[.string s,.int .u8 (c.toNat:Int)] I (.int .i64 (Lib.indexByte s.data.toList c)):=by
 refine enter func267 call267 rfl ntmps267 rfl fun w0=>?_;refine go 10 ?_;refine cV (b3c I s c) ?_;refine go 5 ?_;exact q_v rfl
theorem c9W (I:IMap) :
    FnV prog 200 #[] I (.agg clsTab.toArray):=by
 refine enter func200 call200 rfl ntmps200 rfl fun w0=>?_;refine go 4 fun g0=>?_
 refine go 6 fun g1=>?_
 refine go 9 ?_
 refine a0x (α:=Nat) 0 (fun i=>I)
  (fun i=>[(1,.pointer (some ⟨g1,0,none⟩)),(0,.pointer (some ⟨g0,0,none⟩)),(4,.int .i64 (i:Int))])
  (fun i=>[.blk g1 307 (a3V i),.blk g0 307 (a3V 0)])
  (fun i=>i≤256)
  (fun i=>256-i) oM rfl sb rfl ?_
 intro i hi;refine gC 6 (fun h5 p5=>?_) fun h5 p5=>?_
 ·have hlt:i<256:=oM;have hb:((i.toUInt8.toNat:Nat):Int)=(i:Int):=by simp;omega
  refine go 3 ?_;refine a1V (I':=I) (L':=[(1,.pointer (some ⟨g1,0,none⟩)),(0,.pointer (some ⟨g0,0,none⟩)),(4,.int .i64 (i:Int))]) (H':=[.blk g1 307 (a3V (i+1)),.blk g0 307 (a3V 0)]) ?_ ?_
  ·refine go 10 ?_;refine o_v rfl (a2b he he rfl (m:=((i.toUInt8.toNat:Nat):Int)) (by rw[hb];exact c5h i hlt)) ?_;refine go 5 ?_;refine c1q (L':=[(1,.pointer (some ⟨g1,0,none⟩)),(0,.pointer (some ⟨g0,0,none⟩)),(4,.int .i64 (i:Int)),(2,.int .i64 (i:Int)),(3,.int .u8 (i.toUInt8.toNat:Int)),(9,.bool (a6H i.toUInt8||b1y i.toUInt8))]) ?_ ?_
   ·refine go 1 ?_;refine c1q (L':=[(1,.pointer (some ⟨g1,0,none⟩)),(0,.pointer (some ⟨g0,0,none⟩)),(4,.int .i64 (i:Int)),(2,.int .i64 (i:Int)),(3,.int .u8 (i.toUInt8.toNat:Int)),(9,.bool (a6H i.toUInt8))]) ?_ ?_
    ·refine gS 4 12 (fun h12 p12=>?_) fun h12 p12=>?_
     ·refine go 6 ?_;exact a0r ⟨rfl,rfl,rfl,rfl,rfl,(bB (by simp only[a6H,h5,h12,bS])),trivial⟩ rfl rfl
     ·refine go 6 ?_;exact a0r ⟨rfl,rfl,rfl,rfl,rfl,(bB (by simp only[a6H,h5,h12,bS])),trivial⟩ rfl rfl
    ·refine gC 0 (fun h9 p9=>?_) fun h9 p9=>?_
     ·refine go 2 ?_;exact a0r ⟨rfl,rfl,rfl,rfl,rfl,(bB (by simp only[b1y,h9,bS])),trivial⟩ rfl rfl
     ·refine gS 4 18 (fun h18 p18=>?_) fun h18 p18=>?_
      ·refine go 6 ?_;exact a0r ⟨rfl,rfl,rfl,rfl,rfl,(bB (by simp only[b1y,h9,h18,bS])),trivial⟩ rfl rfl
      ·refine go 6 ?_;exact a0r ⟨rfl,rfl,rfl,rfl,rfl,(bB (by simp only[b1y,h9,h18,bS])),trivial⟩ rfl rfl
   ·refine gC 0 (fun h9 p9=>?_) fun h9 p9=>?_
    ·refine go 2 ?_;refine o_v rfl (a8g he rfl rfl i oM oM) ?_;refine go 1 ?_;refine a8C he rfl rfl rfl (by rw[a3b,Nat.blt_eq];omega) ?_;refine go 4 ?_;exact a0r sb (congrArg (fun r=>[Res.blk g1 _ r,_]) (a7h i hlt _ (c9Z h9))) rfl
    ·refine go 1 ?_;refine c1q (L':=[(1,.pointer (some ⟨g1,0,none⟩)),(0,.pointer (some ⟨g0,0,none⟩)),(4,.int .i64 (i:Int)),(2,.int .i64 (i:Int)),(3,.int .u8 (i.toUInt8.toNat:Int)),(24,.bool (a2U i.toUInt8))]) ?_ ?_
     ·refine gS 4 27 (fun h27 p27=>?_) fun h27 p27=>?_
      ·refine go 6 ?_;exact a0r ⟨rfl,rfl,rfl,rfl,rfl,(bB (by simp only[a2U,h9,h27,bS])),trivial⟩ rfl rfl
      ·refine go 6 ?_;exact a0r ⟨rfl,rfl,rfl,rfl,rfl,(bB (by simp only[a2U,h9,h27,bS])),trivial⟩ rfl rfl
     ·refine gC 0 (fun h24 p24=>?_) fun h24 p24=>?_
      ·refine go 2 ?_;refine o_v rfl (a8g he rfl rfl i oM oM) ?_;refine go 1 ?_;refine a8C he rfl rfl rfl (by rw[a3b,Nat.blt_eq];omega) ?_;refine go 4 ?_;exact a0r sb (congrArg (fun r=>[Res.blk g1 _ r,_]) (a7h i hlt _ (d0a h9 h24))) rfl
      ·refine go 4 ?_;refine cV (indexByte I _ i.toUInt8) ?_;refine gC 4 (fun h33 p33=>?_) fun h33 p33=>?_
       ·refine go 2 ?_;refine o_v rfl (a8g he rfl rfl i oM oM) ?_;refine go 1 ?_;refine a8C he rfl rfl rfl (by rw[a3b,Nat.blt_eq];omega) ?_;refine go 4 ?_;exact a0r sb (congrArg (fun r=>[Res.blk g1 _ r,_]) (a7h i hlt _ (c9Y h9 h24 h33))) rfl
       ·refine go 4 ?_;refine cV (indexByte I _ i.toUInt8) ?_;refine gC 4 (fun h39 p39=>?_) fun h39 p39=>?_
        ·refine go 2 ?_;refine o_v rfl (a8g he rfl rfl i oM oM) ?_;refine go 1 ?_;refine a8C he rfl rfl rfl (by rw[a3b,Nat.blt_eq];omega) ?_;refine go 4 ?_;exact a0r sb (congrArg (fun r=>[Res.blk g1 _ r,_]) (a7h i hlt _ (d0b h9 h24 h33 h39))) rfl
        ·refine go 4 ?_;exact a0r sb (congrArg (fun r=>[Res.blk g1 _ r,_]) (b5U i hlt (c9X h9 h24 h33 h39)).symm) rfl
  ·refine go 5 ?_;exact a0w (i+1) oM oM rfl sb rfl
 ·refine go 7 ?_;refine o_v rfl (a8g he rfl rfl 35 rfl oM) ?_;refine go 1 ?_;refine a8C he rfl rfl rfl (by simp only[List.length_set,a3b];rfl) ?_;refine o_v rfl (a8g he rfl rfl 95 rfl oM) ?_;refine go 1 ?_;refine a8C he rfl rfl rfl (by simp only[List.length_set,a3b];rfl) ?_;refine o_v rfl (a8g he rfl rfl 34 rfl oM) ?_;refine go 1 ?_;refine a8C he rfl rfl rfl (by simp only[List.length_set,a3b];rfl) ?_;refine go 6 ?_;refine a0b ?_;refine go 5 ?_;have e:i=256:=oM;subst e;exact q_v rfl
theorem a3C (I:IMap) (s:ByteArray) (hs:s.size≤9223372036854775807) :
    FnV prog 115 #[.string s] I (.bool (a1p s)):=by
 refine enter func115 call115 rfl ntmps115 rfl fun w0=>?_;refine go 8 ?_;refine cV (c9W _) ?_;refine go 2 fun g3=>?_
 refine go 13 ?_
 refine a0x (α:=Nat) 0 (fun i=>I)
  (fun i=>[(0,.string s),(3,.pointer (some ⟨g3,0,none⟩)),(8,.int .i64 (s.size:Int)),(9,.int .i64 (i:Int))])
  (fun i=>[.blk g3 307 clsTab])
  (fun i=>i≤s.size∧a8r s i=true)
  (fun i=>s.size-i) ⟨Nat.zero_le _,rfl⟩ rfl sb rfl ?_
 intro i ⟨hi,hn⟩;refine gC 6 (fun h10 p10=>?_) fun h10 p10=>?_
 ·refine go 14 ?_;refine o_v rfl (c4R he rfl rfl i oM oM) ?_;refine o_v rfl (a8g he rfl rfl (s[i]!).toNat rfl (s[i]!).toNat_lt) ?_;refine o_v rfl (b1m m0 he rfl (by rw[show 0+(s[i]!).toNat * 1=(s[i]!).toNat from by omega];exact c1D _)) ?_;refine gS 8 19 (fun h19 p19=>?_) fun h19 p19=>?_
  ·refine gS 3 22 (fun h22 p22=>?_) fun h22 p22=>?_
   ·refine go 23 ?_;exact q_v (by simp only[a1p,b4i (show i<s.size from oM) (show a2R s i=false by simp only[a2R,←(a4u _).1,←(a4u _).2.1,←(a4u _).2.2];simp_all),bS])
   ·refine gS 3 25 (fun h25 p25=>?_) fun h25 p25=>?_
    ·refine gC 7 (fun h30 p30=>?_) fun h30 p30=>?_
     ·refine go 12 ?_;exact q_v (by simp only[a1p,b4i (show i<s.size from oM) (show a2R s i=false by simp only[a2R,←(a4u _).1,←(a4u _).2.1,←(a4u _).2.2];simp_all),bS])
     ·refine go 8 ?_;exact a0w (i+1) ⟨oM,a8s hn (by simp only[a2R,←(a4u _).1,←(a4u _).2.1,←(a4u _).2.2];simp_all)⟩ oM rfl sb rfl
    ·refine go 16 ?_;exact a0w (i+1) ⟨oM,a8s hn (by simp only[a2R,←(a4u _).1,←(a4u _).2.1,←(a4u _).2.2];simp_all)⟩ oM rfl sb rfl
  ·refine go 22 ?_;exact a0w (i+1) ⟨oM,a8s hn (by simp only[a2R,←(a4u _).1,←(a4u _).2.1,←(a4u _).2.2];simp_all)⟩ oM rfl sb rfl
 ·refine gS 10 34 (fun h34 p34=>?_) fun h34 p34=>?_
  ·refine go 9 ?_;have e:i=s.size:=oM;subst e;exact q_v (by simp only[a1p,hn,h10,h34,bS])
  ·refine go 9 ?_;have e:i=s.size:=oM;subst e;exact q_v (by simp only[a1p,hn,h10,h34,bS])
end Go.Proofs.YtgmkjpafapgccaaGreat
