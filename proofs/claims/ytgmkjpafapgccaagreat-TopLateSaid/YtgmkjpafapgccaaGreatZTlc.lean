
import Derived.Test.YtgmkjpafapgccaaGreatZTlb
import Derived.Laws.Bits64b
import Derived.Lib.Mul64
import Derived.Maps.RangeRun
import Derived.Test.YtgmkjpafapgccaaGreatChecked
set_option linter.all false
namespace Go.Sx
open Go
def okK (r:Rep) (k:Int):Bool:=!(decide (k<0)||decide (chs r≤k))
def d2r (l:List Rep) (ch:List Int) (i:Nat):Option Evt:=(at2 (fun r k=>r.options[k.toNat]?) l ch i).join
def a6k (l:List Rep) (ch:List Int) (n:Nat):List Evt:=(List.range n).filterMap (d2r l ch)
def a2f (l:List Rep) (ch:List Int):List Evt×Int:=if (decide (((l.length:Nat):Int)=(ch.length:Nat))&&a8Z okK l ch l.length)=true then (a6k l ch l.length,0) else ([],1)
theorem b6N (l:List Rep) (ch:List Int) (i:Nat):a6k l ch (i+1)=a6k l ch i++(d2r l ch i).toList:=by
 rw[a6k,List.range_succ,List.filterMap_append,a6k]
 congr 1
theorem c0R {l:List Rep} {ch:List Int} {i:Nat} (h1:i<l.length) (h2:i<ch.length):d2r l ch i=l[i].options[ch[i].toNat]?:=by
 rw[d2r,a4x h1 h2];rfl
theorem d2u {l:List Rep} {ch:List Int} {i:Nat} {out:List Evt} (h1:i<l.length) (h2:i<ch.length) (hw:a6k l ch i=out) (h:ch[i]=(l[i].options.length:Nat)):a6k l ch (i+1)=out:=by
 rw[b6N,hw,c0R h1 h2,List.getElem?_eq_none oM];simp
theorem c8Y {l:List Rep} {ch:List Int} {i:Nat} {out:List Evt} (h1:i<l.length) (h2:i<ch.length) (hw:a6k l ch i=out) (hk:ch[i].toNat<l[i].options.length):a6k l ch (i+1)=out++[l[i].options[ch[i].toNat]]:=by
 rw[b6N,hw,c0R h1 h2,List.getElem?_eq_getElem hk];rfl
theorem c0W (l:List Rep) (ch:List Int) (i:Nat):(a6k l ch i).length≤i:=by
 unfold a6k;exact Nat.le_trans (List.length_filterMap_le _ _) (by simp)
theorem d2e (r:Rep):chs r≤(r.options.length:Nat)+1:=by
 unfold chs
 split
 ·omega
 ·split<;>omega
theorem b4o {l:List Rep} {ch:List Int} (h:¬((l.length:Nat):Int)=(ch.length:Nat)):a2f l ch=([],1):=by
 simp[a2f,h]
theorem a6b {l:List Rep} {ch:List Int} {i:Nat} (h1:i<l.length) (h2:i<ch.length) (h:okK l[i] ch[i]=false):a2f l ch=([],1):=by
 simp[a2f,b3d h1 h1 h2 h]
theorem b4p {l:List Rep} {ch:List Int} (hl:((l.length:Nat):Int)=(ch.length:Nat)) (h:a8Z okK l ch l.length=true):a2f l ch=(a6k l ch l.length,0):=by
 simp[a2f,hl,h]
end Go.Sx
set_option linter.all false
namespace Go.Sx
open Go
section
variable {c:List Kind} {l:List Rep} {t:List Int} {E:List Evt} {day:Int} {s:List Part}
end
def nmB (r:Rep) (z:ByteArray):Bool:=a0l r&&r.options.any fun e=>decide (z∈a1w e)
theorem a4M {r:Rep} {z:ByteArray}:nmB r z=true↔nm r z:=by
 simp[nmB,nm,List.any_eq_true]
def b1i (l:List Rep) (p:ByteArray):Option Nat:=(List.range l.length).find? fun i=>((l[i]?).map fun r=>nmB r p).getD false
def ofN (l:List Rep) (R:Nat→Nat) (p:ByteArray):List Nat:=match b1i l p with
 |some k=>a5u R l.length (R k)
 |none=>[]
def a3V (l:List Rep) (R:Nat→Nat) (p:ByteArray):List Rep:=a5w l (ofN l R p)
section
variable {l:List Rep} {R:Nat→Nat} {p q:ByteArray} {k:Nat}
theorem b5r (h:b1i l p=some k):∃hk:k<l.length,nm l[k] p:=by
 unfold b1i at h
 have h1:=List.mem_range.1 (List.mem_of_find?_eq_some h);have h2:=List.find?_some h
 simp only[List.getElem?_eq_getElem h1,Option.map_some,Option.getD_some]at h2
 exact⟨h1,a4M.1 h2⟩
theorem a9y:b1i l p=none↔∀k (hk:k<l.length),¬nm l[k] p:=by
 unfold b1i;rw[List.find?_eq_none]
 constructor
 ·intro h k hk hn;have:=h k (List.mem_range.2 hk)
  simp only[List.getElem?_eq_getElem hk,Option.map_some,Option.getD_some]at this
  exact this (a4M.2 hn)
 ·intro h k hk;have hk:=List.mem_range.1 hk
  simp only[List.getElem?_eq_getElem hk,Option.map_some,Option.getD_some]
  intro hn;exact h k hk (a4M.1 hn)
theorem c1R (hR:Rts l R) (hk:k<l.length) (h:nm l[k] p):ofN l R p=a5u R l.length (R k):=by
 unfold ofN
 cases hf:b1i l p with
 |none=>exact absurd h (a9y.1 hf k hk)
 |some j=>
  obtain⟨hj,hn⟩:=b5r hf
  show a5u R l.length (R j)=_
  rw[hR.share hj hk hn h]
theorem c9Z (h:∀k (hk:k<l.length),¬nm l[k] p):ofN l R p=[]:=by unfold ofN;rw[a9y.2 h]
theorem c9Y {i:Nat} (h:i∈ofN l R p):i<l.length:=by
 unfold ofN at h
 split at h
 ·exact c9L h
 ·cases h
theorem b5U {r:Rep} (h:r∈a3V l R p):r∈l:=c2e h
theorem d0e:(a3V l R p).length≤l.length:=by
 unfold a3V;rw[b0c fun i hi=>c9Y hi]
 have h1:(ofN l R p).length≤(List.range l.length).length:=by
  unfold ofN
  split
  ·exact List.length_filter_le _ _
  ·simp
 simpa using h1
end
end Go.Sx
set_option linter.all false
namespace Go.Sx
open Go
theorem Fst.rt_up {F:List Nat} (h:Fst F) (i:Nat):rt F (up F i)=rt F i:=by
 by_cases h1:up F i<i
 ·rw[a3t h1]
 ·rw[show up F i=i from Nat.le_antisymm (h i) (Nat.not_lt.1 h1)]
def a9R (F:List Nat):List (List Value):=F.map fun (x:Nat)=>[ci (x:Int)]
def nI (F:List Nat):List Int:=F.map fun (x:Nat)=>(x:Int)
section
variable {F:List Nat} {rest:List (List Value)} {i x:Nat}
theorem a4L (F:List Nat):Uk 1 (a9R F):=fun c hc=>by obtain⟨x,_,rfl⟩:=List.mem_map.1 hc;rfl
theorem a4z (F:List Nat):(a9R F).length=F.length:=by simp[a9R]
theorem b2v (h:i<F.length):(a9R F++rest)[i]? = some [ci ((F[i]:Nat):Int)]:=by
 rw[List.getElem?_append_left (by rw[a4z];exact h)];simp[a9R,h]
theorem b7p (h:i<F.length) (x:Nat):(a9R F++rest).set i [ci (x:Int)]=a9R (F.set i x)++rest:=by
 rw[List.set_append_left _ _ (by rw[a4z];exact h)];simp[a9R,List.map_set]
theorem c1K (F:List Nat) (x:Nat):(a9R F).flatten++[ci (x:Int)]=(a9R (F++[x])).flatten:=by simp[a9R]
theorem b7n (F:List Nat):(nI F).length=F.length:=by simp[nI]
theorem d5W (h:i<F.length) (h2:i<(nI F).length):(nI F)[i]=(F[i]:Nat):=by simp[nI]
end
section
variable {P:Program} {n:Sz} {E:Ent} {I:IMap} {L:LL} {H:List Res} {K:Act→World→Prop} {α:Type} {f:α→Res} {l:List α} {k:Nat} {a b c d e:Res}
end
abbrev Lst:=Value×List Nat
section
variable {P:Program} {n:Sz} {E:Ent} {I:IMap} {L:LL} {H:List Res} {K:Act→World→Prop} {e:Nat}
end
section
variable {P:List Lst} {rest:List (List Value)} {k:Nat}
end
section
variable {n:Sz} {E:Ent} {I:IMap} {L:LL} {H:List Res} {K:Act→World→Prop} {e:Nat} {v:Value} {q:List Nat} {x:Nat}
end
section
variable {R:Nat→Nat} {i k r:Nat}
end
theorem c9K {kvs:List (ByteArray×Value)} {fm:ByteArray→Option Nat} (hM:∀z,a3U kvs z=(fm z).map fun (q:Nat)=>Value.int .i64 (q:Int)) (k:ByteArray) (i:Nat):∀z,a3U (a3P kvs k (.int .i64 (i:Int))) z=(if k=z then some i else fm z).map fun (q:Nat)=>Value.int .i64 (q:Int):=fun z=>by
 rw[a7f,hM z];split<;>rfl
theorem b7e {a:Prop} {k i j:Nat} {z:ByteArray} {ns:List ByteArray} (hj:j<ns.length) (h:a∨(k=i∧z∈ns.take (j+1))):(a∨(k=i∧z∈ns.take j))∨(k=i∧z=ns[j]):=by
 rcases h with h|⟨h1,h2⟩
 ·exact .inl (.inl h)
 ·rw[←a0c hj]at h2
  rcases List.mem_append.1 h2 with h2|h2
  ·exact .inl (.inr ⟨h1,h2⟩)
  ·exact .inr ⟨h1,List.mem_singleton.1 h2⟩
theorem c9J {l:List Rep} {i k:Nat} {z:ByteArray} {ns:List ByteArray} (hi:i<l.length) (hn:a8X l[i] ns) (h:k<i+1∧∃h:k<l.length,nm l[k] z):(k<i∧∃h:k<l.length,nm l[k] z)∨(k=i∧z∈ns):=by
 obtain⟨h1,h2,h3⟩:=h
 rcases Nat.lt_or_ge k i with h4|h4
 ·exact .inl ⟨h4,h2,h3⟩
 ·obtain rfl:k=i:=oM;exact .inr ⟨rfl,(c9P hn z).2 h3⟩
end Go.Sx
set_option linter.all false
namespace Go.Sx
open Go
section
variable {P:Program} {ρ:Option Nat} {n:Sz} {E:Ent} {I:IMap} {L:LL} {H:List Res} {Q:Exit→Act→World→Prop} {ops:Array Oper} {K:Act→World→Prop}
variable {α:Type} [Enc α] {d ty:Nat} {pos:String} {af:Array Edge} {x y:Operand}
theorem Flat.rda {I:IMap} {g:Nat} {ws:List Value} {l:List α} (hF:Flat I ws l) (hc:ICells I g 0 ws):RdA I (some ⟨g,0,none⟩) l:=fun _=>
 ⟨g,0,rfl,fun i x hi=>by
  obtain⟨vs,h1,h2⟩:=hF.at_ i x hi;refine⟨vs,fun j u hu=>?_,h1⟩;have h3:=hc _ _ (h2 j u hu);rw[Nat.zero_add]at h3
  rw[Nat.zero_add]
  exact h3⟩
end
end Go.Sx
set_option linter.all false
namespace Go.Sx
open Go
abbrev Row:=Nat×List Bool
section
variable {Q:List Row} {rest:List (List Value)} {k:Nat}
end
section
variable {P:Program} {n:Sz} {E:Ent} {I:IMap} {L:LL} {H:List Res} {K:Act→World→Prop} {e:Nat}
end
section
variable {c:List Kind} {l:List Rep} {R:Nat→Nat} {i j n r:Nat}
theorem c7f:∀{a b:List Rep},a.Sublist b→(∀r∈b,chs r≠0)→a4d a≤a4d b:=by
 intro a b h
 induction h with
 |slnil=>intro _;exact Nat.le_refl _
 |cons x h ih=>
  intro hp;have h1:=ih fun r hr=>hp r (by simp[hr])
  have h2:=hp x (by simp);have h3:=b0Z x;rw[a4d];exact Nat.le_trans h1 (Nat.le_mul_of_pos_left _ oM)
 |cons_cons x h ih=>
  intro hp;rw[a4d,a4d];exact Nat.mul_le_mul_left _ (ih fun r hr=>hp r (by simp[hr]))
theorem c5R (n r:Nat):(a5w l (a5u R l.length r)).Sublist l:=by
 have:(a5u R l.length r).Sublist (List.range l.length):=List.filter_sublist;have h2:=this.filterMap fun i=>l[i]?
 have h3:(List.range l.length).filterMap (fun i=>l[i]?)=l:=b0d l;rw[h3]at h2
 exact h2
end
theorem FnV.cast {P:Program} {f:FuncId} {args:Array Value} {I:IMap} {v u:Value} (h:FnV P f args I v) (e:v=u):FnV P f args I u:=e▸h
section
variable {Q:List Row} {M:Nat→Int→Bool} {l:List Rep} {i n g q:Nat} {k:Int} {c:List Kind}
end
end Go.Sx
set_option linter.all false
namespace Go.Sx
open Go
structure Plc where
 into:ByteArray
 slot:ByteArray
 deriving DecidableEq
def Plc.cells (x:Plc):List Value:=[.string x.into,.string x.slot]
instance:Enc Plc where
 k:=2
 rd _ vs x:=vs=x.cells
 len h:=by rw[h];rfl
 mono _ h:=h
 one h:=by rw[h];rfl
theorem a7t {x y:ByteArray} (h:sLt y x=false) (hn:y≠x):sLt x y=true:=by
 cases h2:sLt x y with
 |true=>rfl
 |false=>exact absurd (b2L h h2) hn
def d0f (s:List Part) (p:ByteArray):Part:=(a0f s p).getD zPart
def d0m (p:ByteArray) (s:List Part):Plc:=⟨(d0f s p).into,(d0f s p).slot⟩
def rootGo (s:List Part):Nat→ByteArray→ByteArray
 |0,_=>a0O
 |n+1,p=>match a0f s p with
  |none=>a0O
  |some q=>if q.into=a0O then p else rootGo s n q.into
def d0D (p:ByteArray) (s:List Part):ByteArray:=rootGo s s.length p
def d6E (c:List Kind) (l own:List Rep):Int:=
 if a2p c=false then 1 else if l.any (fun r=>!a0l r)=true then 1 else if own=[] then 2 else if (d4H c own 4096).2≠0 then (d4H c own 4096).2 else if (d4H c own 4096).1.length=4096 then 7 else 0
section
variable {c:List Kind} {s a b:List Part} {p:ByteArray} {q:Part} {D:ByteArray→Bool}
theorem Spl.rootGo (h:Spl D s a b):∀(n:Nat) (p:ByteArray),D p=true→rootGo s n p=Go.Sx.rootGo a n p
 |0,_,_=>rfl
 |n+1,p,hp=>by
  simp only[Go.Sx.rootGo,h.find hp]
  cases hq:a0f a p with
  |none=>rfl
  |some q=>
   show (if q.into=a0O then p else _)=(if q.into=a0O then p else _)
   by_cases hi:q.into=a0O
   ·rw[if_pos hi,if_pos hi]
   ·rw[if_neg hi,if_neg hi];exact Spl.rootGo h n _ ((h.na q ((a1v h.ia).1 hq).1).2.resolve_left hi)
theorem Spl.place (h:Spl D s a b) (hp:D p=true):d0m p s=d0m p a:=by unfold d0m d0f;rw[h.find hp]
end
end Go.Sx
set_option linter.all false
namespace Go.Sx
open Go
def trT (t:Int):Int:=if t=0∨t=2 then t else 1
def d3d (t:Int):Int:=2-trT t
def b3e (a b:Int):Int:=min (trT a) (trT b)
def orT (a b:Int):Int:=max (trT a) (trT b)
def c6U (b:Bool):Int:=if b=true then 2 else 0
theorem b4J (t:Int):0≤trT t∧trT t≤2:=by unfold trT;split<;>omega
structure Cnc where
 part:ByteArray
 rule:ByteArray
 to:Int
 deriving DecidableEq
def Cnc.cells (x:Cnc):List Value:=[.string x.part,.string x.rule,ci x.to]
instance:Enc Cnc where
 k:=3
 rd _ vs x:=vs=x.cells
 len h:=by rw[h];rfl
 mono _ h:=h
 one h:=by rw[h];rfl
structure Sbu where
 kind:ByteArray
 slot:ByteArray
 other:ByteArray
 twin:ByteArray
 to:Int
 deriving DecidableEq
def Sbu.cells (x:Sbu):List Value:=[.string x.kind,.string x.slot,.string x.other,.string x.twin,ci x.to]
instance:Enc Sbu where
 k:=5
 rd _ vs x:=vs=x.cells
 len h:=by rw[h];rfl
 mono _ h:=h
 one h:=by rw[h];rfl
def Sbu.eqB (a b:Sbu):Bool:=decide (a.kind=b.kind)&&(decide (a.slot=b.slot)&&(decide (a.other=b.other)&&(decide (a.twin=b.twin)&&(decide (a.to=b.to)&&true))))
theorem Sbu.eqB_eq (a b:Sbu):Sbu.eqB a b=decide (a=b):=by
 cases a;cases b;simp[Sbu.eqB]
def b1c (part rule:ByteArray) (day:Int) (x:Cnc):Bool:=(decide (x.part=part)&&decide (x.rule=rule))&&decide (day≤x.to)
def c0X (l:List Cnc) (part rule:ByteArray) (day:Int):Bool:=l.any (b1c part rule day)
def a6F (c:List Kind) (kind name other:ByteArray):Bool:=
 ((b4E c kind name).isSome&&decide (a4u (fun x=>decide (other=x)) ((b4E c kind name).getD c7h).kinds≥0))&&decide (a4u (fun x=>decide (other=x)) ((b4E c kind name).getD c7h).kinds<((b4E c kind name).getD c7h).normal)
def a9j (p:Part) (slot:ByteArray) (x:Part):Bool:=(decide (x.into=p.into)&&decide (x.slot=slot))&&decide (x.kind=p.kind)
def a8q (s:List Part) (p h:Part) (day:Int) (u:Sbu):Bool:=(decide (u=⟨h.kind,p.slot,p.kind,u.twin,u.to⟩)&&decide (day≤u.to))&&(decide (u.twin=⟨#[]⟩)||s.any (a9j p u.twin))
def b0R (c:List Kind) (subs:List Sbu) (s:List Part) (part:ByteArray) (day:Int):Bool:=
 if (!(a0f s part).isSome||decide (((a0f s part).getD zPart).into=⟨#[]⟩))=true then (a0f s part).isSome
 else if (a0f s ((a0f s part).getD zPart).into).isSome=false then false
 else if a6F c ((a0f s ((a0f s part).getD zPart).into).getD zPart).kind ((a0f s part).getD zPart).slot ((a0f s part).getD zPart).kind=true then true
 else subs.any (a8q s ((a0f s part).getD zPart) ((a0f s ((a0f s part).getD zPart).into).getD zPart) day)
section
variable {c:List Kind} {subs:List Sbu} {s:List Part} {part:ByteArray} {day:Int}
theorem c2c (h:(!(a0f s part).isSome||decide (((a0f s part).getD zPart).into=⟨#[]⟩))=true):b0R c subs s part day=(a0f s part).isSome:=by unfold b0R;rw[if_pos h]
theorem d0g (h:(!(a0f s part).isSome||decide (((a0f s part).getD zPart).into=⟨#[]⟩))=false) (h2:(a0f s ((a0f s part).getD zPart).into).isSome=false):b0R c subs s part day=false:=by
 unfold b0R;rw[if_neg (by rw[h];decide),if_pos h2]
theorem d0h (h:(!(a0f s part).isSome||decide (((a0f s part).getD zPart).into=⟨#[]⟩))=false) (h2:(a0f s ((a0f s part).getD zPart).into).isSome=true) (h3:a6F c ((a0f s ((a0f s part).getD zPart).into).getD zPart).kind ((a0f s part).getD zPart).slot ((a0f s part).getD zPart).kind=true):b0R c subs s part day=true:=by
 unfold b0R;rw[if_neg (by rw[h];decide),if_neg (by rw[h2];decide),if_pos h3]
theorem d0i (h:(!(a0f s part).isSome||decide (((a0f s part).getD zPart).into=⟨#[]⟩))=false) (h2:(a0f s ((a0f s part).getD zPart).into).isSome=true) (h3:a6F c ((a0f s ((a0f s part).getD zPart).into).getD zPart).kind ((a0f s part).getD zPart).slot ((a0f s part).getD zPart).kind=false) :
  b0R c subs s part day=subs.any (a8q s ((a0f s part).getD zPart) ((a0f s ((a0f s part).getD zPart).into).getD zPart) day):=by
 unfold b0R;rw[if_neg (by rw[h];decide),if_neg (by rw[h2];decide),if_neg (by rw[h3];decide)]
end
theorem d1j {I:IMap} {p h:Part} {q q2:Value} (h1:RdS I q p.props) (h2:RdS I q2 h.props):(p.cells q++h.cells q2).all (·.oneCell')=true:=by
 have e1:=Enc.one (α:=Part) (I:=I) (vs:=p.cells q) (x:=p) ⟨q,rfl,h1⟩;have e2:=Enc.one (α:=Part) (I:=I) (vs:=h.cells q2) (x:=h) ⟨q2,rfl,h2⟩;rw[List.all_append,e1,e2];rfl
section
variable {α:Type} {p:α→Bool} {l:List α} {i:Nat}
theorem b1S (h:i<l.length) (hp:p l[i]=true):l.any p=true:=List.any_eq_true.2 ⟨_,List.getElem_mem h,hp⟩
theorem b4V (h:∀j x,j<i→l[j]? = some x→p x=false) (hi:¬i<l.length):l.any p=false:=by
 rw[List.any_eq_false];intro x hx;obtain⟨j,hj,rfl⟩:=List.getElem_of_mem hx;rw[h j _ oM (List.getElem?_eq_getElem hj)];decide
end
end Go.Sx
set_option linter.all false
namespace Go.Sx
open Go
open Go.ChangeMaps (setBlock)
structure ItS where
 es:Array MapEntry
 clock:Nat
 seen:Array Nat
def ItS.it (S:ItS) (m:Nat):Obj:=.mapIter (some m) S.clock S.seen S.clock
def ItS.mp (S:ItS):Obj:=.map S.es S.clock
structure ItS.Ok {κ:Type} (enc:κ→Value) (kvs:List (κ×Value)) (S:ItS):Prop where
 all:S.es.toList.map (fun e=>(e.key,e.val))=a1u enc kvs
 nd:(S.es.toList.map (·.born)).Nodup
 old:∀e∈S.es.toList,e.born<S.clock
def ItS.Todo {κ:Type} (enc:κ→Value) (todo:List (κ×Value)) (S:ItS):Prop:=(leftOf S.es S.seen).toList.map (fun e=>(e.key,e.val))=a1u enc todo
def ItS.At {κ:Type} (enc:κ→Value) (p:κ×Value) (S:ItS):Prop:=∃(e:MapEntry) (seen0:Array Nat),S.seen=seen0.push e.born∧e∈S.es.toList∧e.key=enc p.1∧e.val=p.2
inductive ItS.Step {κ:Type} (enc:κ→Value) (kvs todo:List (κ×Value)) (S:ItS):Option (κ×Value)→ItS→List (κ×Value)→Prop
 |over (h:todo=[]):ItS.Step enc kvs todo S none S todo
 |come (p:κ×Value) (a b:List (κ×Value)) (S':ItS) (h:todo=a++p::b) (h1:S'.Ok enc kvs) (h2:S'.Todo enc (a++b)) (h3:S'.At enc p):ItS.Step enc kvs todo S (some p) S' (a++b)
def c5z {κ:Type} (enc:κ→Value):Option (κ×Value)→Array Value
 |none=>#[.bool false]
 |some p=>#[.bool true,enc p.1,p.2]
theorem a7U {κ:Type} (enc:κ→Value) (q:Option (κ×Value)):(c5z enc q)[0]? = some (.bool q.isSome):=by cases q<;>rfl
theorem c4w {κ:Type} {enc:κ→Value} {x:Value×Value}:∀{l a b:List (Value×Value)} {todo:List (κ×Value)},l=a1u enc todo→l=a++x::b→∃(p:κ×Value) (a' b':List (κ×Value)),todo=a'++p::b'∧a1u enc a'=a∧a1u enc b'=b∧(enc p.1,p.2)=x
 |_,a,b,todo,rfl,h=>by
  have h1:todo.map (fun p=>(enc p.1,p.2))=a++x::b:=h;obtain⟨a',c',rfl,h2,h3⟩:=List.map_eq_append_iff.1 h1;obtain⟨p,b',rfl,h4,h5⟩:=List.map_eq_cons_iff.1 h3;exact⟨p,a',b',rfl,h2,h5,h4⟩
section
variable {P:Program} {ρ:Option Nat} {n:Sz} {E:Ent} {I:IMap} {L:LL} {H:List Res} {Q:Exit→Act→World→Prop} {ops:Array Oper} {K:Act→World→Prop}
variable {d ty:Nat} {pos:String} {af:Array Edge} {x y:Operand} {κ:Type} [DecidableEq κ] {enc:κ→Value} {kvs todo:List (κ×Value)} {S:ItS} {m r:Nat}
theorem a4e (h:∀S:ItS,S.Ok enc kvs→S.Todo enc kvs→S.seen=#[]→SX n E I L (.any m S.mp::H) K):SX n E I L (.mp m (a1u enc kvs)::H) K:=by
 intro a w s mm;obtain⟨entries,clock,h1,h2,h3,h4⟩:=mm.mp (List.mem_cons_self ..);refine h ⟨entries,clock,#[]⟩ ⟨h2,h3,h4⟩ ?_ rfl a w s (mm.step rfl ⟨rfl,Nat.le_refl _⟩ rfl (Nat.le_refl _) (fun _ _ _=>rfl) h1 (fun g hg=>.inl hg));unfold ItS.Todo leftOf;rw[show (entries.filter fun e=>!(#[]:Array Nat).contains e.born)=entries from Array.filter_eq_self.2 (fun x hx=>by simp)];exact h2
theorem b1L (hO:S.Ok enc kvs) (h:SX n E I L (.mp m (a1u enc kvs)::H) K):SX n E I L (.any m S.mp::H) K:=by
 intro a w s mm;refine h a w s (mm.step rfl ⟨rfl,Nat.le_refl _⟩ rfl (Nat.le_refl _) (fun _ _ _=>rfl) ⟨S.mp,mm.holds _ (List.mem_cons_self ..),S.es,S.clock,rfl,hO.all,hO.nd,hO.old⟩ (fun g hg=>.inl hg))
theorem b2B {mt kt et:Nat} (hm:∀w,Mem E I H w→w.heap[m]? = some S.mp) (hS:S.seen=#[]) (ht:P.underlying mt=some (.map kt et)) (hx:ev L x=some (.map (some m))) (hd:Nat.blt d n.sz=true)
  (k:∀r,SX n E I ((d,.pointer (some ⟨r,0,none⟩))::L) (.any r (S.it m)::H) K):SX n E I L H (one P ops Q ⟨some d,.range mt x,ty,pos,af,none⟩ K):=
 a8A (fun r:Nat=>.pointer (some ⟨r,0,none⟩)) (fun _=>I) (fun r=>.any r (S.it m)::H) (fun _=>True) hd
  (fun a w st mm=>by
   have hb:w.heap[m]? = some (.map S.es S.clock):=hm w mm;refine⟨w.heap.size,w.alloc (.mapIter (some m) S.clock #[] S.clock),trivial,?_,mm.new rfl ⟨rfl,Nat.le_refl _⟩ rfl (by simp) (fun k hk=>a4Q w _ k hk) (by show (w.alloc _).heap[w.heap.size]? = _;rw[heap_alloc_new];simp[ItS.it,hS]) (fun g hg=>by simp only[Res.foot,Option.some.injEq]at hg;omega)⟩
   simp only[execOp,st.ev hx,Sem.run_bind,run_range_map w mt kt et m S.es S.clock ht hb,Result.andThen_ok,Sem.run_pure]) fun r _=>k r
theorem b2A {mt kt et:Nat} (hS:S.seen=#[]) (ht:P.underlying mt=some (.map kt et)) (hx:ev L x=some (.map (some m))) (hd:Nat.blt d n.sz=true)
  (k:∀r,SX n E I ((d,.pointer (some ⟨r,0,none⟩))::L) (.any r (S.it m) :: .any m S.mp::H) K):SX n E I L (.any m S.mp::H) (one P ops Q ⟨some d,.range mt x,ty,pos,af,none⟩ K):=
 b2B (fun w mm=>mm.holds _ (List.mem_cons_self ..)) hS ht hx hd k
theorem Mem.setBlock {w:World} {o o':Obj} (mm:Mem E I (.any r o::H) w):Mem E I (.any r o'::H) (setBlock w r o'):=by
 have hr:w.heap[r]? = some o:=mm.holds _ (List.mem_cons_self ..);have hlt:r<w.heap.size:=(Array.getElem?_eq_some_iff.1 hr).1;refine mm.step rfl ⟨rfl,Nat.le_refl _⟩ rfl (by simp[ChangeMaps.setBlock]) (fun k hk hne=>?_) (by show (ChangeMaps.setBlock w r o').heap[r]? = _;simp[ChangeMaps.setBlock,hlt]) (fun g hg=>.inl hg);have:r≠k:=fun e=>hne (by rw[←e];rfl)
 simp[ChangeMaps.setBlock,Array.getElem?_setIfInBounds_ne this]
theorem b5K (hm:∀w,Mem E I (.any r (S.it m)::H) w→w.heap[m]? = some S.mp) (hO:S.Ok enc kvs) (hT:S.Todo enc todo) (hx:ev L x=some (.pointer (some ⟨r,0,none⟩))) (hd:Nat.blt d n.sz=true)
  (k:∀q S' todo',ItS.Step enc kvs todo S q S' todo'→S'.mp=S.mp→SX n E I ((d,.tuple (c5z enc q))::L) (.any r (S'.it m)::H) K) :
  SX n E I L (.any r (S.it m)::H) (one P ops Q ⟨some d,.next x false,ty,pos,af,none⟩ K):=
 a8A (α:=Option (κ×Value)×ItS×List (κ×Value)) (fun z=>.tuple (c5z enc z.1)) (fun _=>I) (fun z=>.any r (z.2.1.it m)::H) (fun z=>ItS.Step enc kvs todo S z.1 z.2.1 z.2.2∧z.2.1.mp=S.mp) hd
  (fun a w st mm=>by
   have hr:w.heap[r]? = some (.mapIter (some m) S.clock S.seen S.clock):=mm.holds (.any r (S.it m)) (List.mem_cons_self ..);have hb:w.heap[m]? = some (.map S.es S.clock):=hm w mm
   rcases run_next_at (P:=P) w ty r m S.clock S.clock S.seen S.es S.clock hr hb hO.old (Nat.le_refl _) with ⟨h0,hrun⟩|⟨e,he,w1,hw1,hrun⟩
   ·refine⟨(none,S,todo),w,⟨.over ?_,rfl⟩,by simp only[execOp,st.ev hx,Sem.run_bind,hrun,Result.andThen_ok,Sem.run_pure];rfl,mm⟩;have h1:(leftOf S.es S.seen).toList=[]:=List.eq_nil_of_length_eq_zero (by simpa using h0);unfold ItS.Todo at hT
    rw[h1]at hT
    cases todo with
    |nil=>rfl
    |cons p t=>simp[a1u]at hT
   ·have hm1:Mem E I (.any r (S.it m)::H) w1:=by rcases hw1 with rfl|rfl;exact mm;exact mm.drew
    obtain⟨l1,l2,hl⟩:=List.append_of_mem he;have hT':=hT;unfold ItS.Todo at hT'
    rw[hl,List.map_append,List.map_cons]at hT'
    obtain⟨p,a',b',e1,e2,e3,e4⟩:=c4w hT'.symm.symm rfl
    have hmem:e∈S.es.toList:=by
     have:e∈(S.es.filter fun e=>!S.seen.contains e.born).toList:=he
     simp at this;simpa using this.1
    have hnd:((leftOf S.es S.seen).toList.map (·.born)).Nodup:=by
     have hs:List.Sublist (leftOf S.es S.seen).toList S.es.toList:=by
      unfold leftOf;rw[Array.toList_filter];exact List.filter_sublist
     exact (hs.map _).nodup hO.nd
    have hleft:(leftOf S.es (S.seen.push e.born)).toList=l1++l2:=by
     have h5:(leftOf S.es (S.seen.push e.born)).toList=(leftOf S.es S.seen).toList.filter (fun y=>!(y.born == e.born)):=by
      unfold leftOf;rw[Array.toList_filter,Array.toList_filter,List.filter_filter]
      congr 1
      funext y
      simp only[Array.contains_push]
      cases S.seen.contains y.born<;>cases hq:(y.born == e.born)<;>simp_all
     rw[h5,hl,List.filter_append,List.filter_cons];rw[hl,List.map_append,List.map_cons]at hnd
     have hn:=List.nodup_append.1 hnd;have hn2:=List.nodup_cons.1 hn.2.1
     simp only[beq_self_eq_true,Bool.not_true,Bool.false_eq_true,if_false]
     congr 1
     ·rw[List.filter_eq_self];intro y hy;have:y.born≠e.born:=hn.2.2 _ (List.mem_map_of_mem hy) _ (List.mem_cons_self ..)
      simpa using this
     ·rw[List.filter_eq_self];intro y hy;have:y.born≠e.born:=fun h=>hn2.1 (by rw[←h];exact List.mem_map_of_mem hy)
      simpa using this
    refine⟨(some p,⟨S.es,S.clock,S.seen.push e.born⟩,a'++b'),setBlock w1 r (.mapIter (some m) S.clock (S.seen.push e.born) S.clock),⟨.come p a' b' ⟨S.es,S.clock,S.seen.push e.born⟩ e1 ⟨hO.all,hO.nd,hO.old⟩ ?_ ⟨e,S.seen,rfl,hmem,?_,?_⟩,rfl⟩,?_,?_⟩
    ·show (leftOf S.es (S.seen.push e.born)).toList.map _=_
     rw[hleft,List.map_append,a1u,List.map_append];rw[←e2,←e3];rfl
    ·exact (congrArg Prod.fst e4).symm
    ·exact (congrArg Prod.snd e4).symm
    ·simp only[execOp,st.ev hx,Sem.run_bind,hrun,Result.andThen_ok,Sem.run_pure]
     rw[show e.key=enc p.1 from (congrArg Prod.fst e4).symm,show e.val=p.2 from (congrArg Prod.snd e4).symm];rfl
    ·exact Mem.setBlock hm1)
  fun z hz=>k z.1 z.2.1 z.2.2 hz.1 hz.2
theorem b7w (hO:S.Ok enc kvs) (hT:S.Todo enc todo) (hx:ev L x=some (.pointer (some ⟨r,0,none⟩))) (hd:Nat.blt d n.sz=true)
  (k:∀q S' todo',ItS.Step enc kvs todo S q S' todo'→SX n E I ((d,.tuple (c5z enc q))::L) (.any r (S'.it m) :: .any m S'.mp::H) K) :
  SX n E I L (.any r (S.it m) :: .any m S.mp::H) (one P ops Q ⟨some d,.next x false,ty,pos,af,none⟩ K):=
 b5K (fun w mm=>mm.holds (.any m S.mp) (List.mem_cons_of_mem _ (List.mem_cons_self ..))) hO hT hx hd fun q S' t' hs e=>e▸k q S' t' hs
theorem b8f {p:κ×Value} (hm:∀w,Mem E I H w→w.heap[m]? = some S.mp) (h1:Res.any r (S.it m)∈H) (hO:S.Ok enc kvs) (hA:S.At enc p) (hx:ev L x=some (.pointer (some ⟨r,0,none⟩))):OV P n E I L H ⟨some d,.entry x,ty,pos,af,none⟩ (.tuple #[enc p.1,p.2]):=fun a w st mm=>by
 obtain⟨e,seen0,hs,he,hk,hv⟩:=hA
 have hr:w.heap[r]? = some (.mapIter (some m) S.clock (seen0.push e.born) S.clock):=by
  have:=mm.holds _ h1;rw[←hs];exact this
 have hb:w.heap[m]? = some (.map S.es S.clock):=hm w mm
 simp only[execOp,st.ev hx,Sem.run_bind,run_entry_at w r m S.clock seen0 S.es S.clock e hr hb he hO.nd,Result.andThen_ok,Sem.run_pure,hk,hv]
theorem b4H (h:∀I',ILe I I'→I' m=some S.mp→SX n E I' L H K):SX n E I L (.any m S.mp::H) K:=by
 intro a w s mm;have hh:w.heap[m]? = some S.mp:=mm.holds _ (List.mem_cons_self ..);exact h _ (IMap.pub_le _ (mm.priv _ (List.mem_cons_self ..) m rfl).1) (IMap.pub_same _ _ _) a w s (mm.pub (g:=m) rfl hh)
theorem a7K (h:I m=some S.mp):∀w,Mem E I H w→w.heap[m]? = some S.mp:=fun w mm=>mm.con m _ h
theorem b2R {p:κ×Value} (h1:Res.any r (S.it m)∈H) (h2:Res.any m S.mp∈H) (hO:S.Ok enc kvs) (hA:S.At enc p) (hx:ev L x=some (.pointer (some ⟨r,0,none⟩))):OV P n E I L H ⟨some d,.entry x,ty,pos,af,none⟩ (.tuple #[enc p.1,p.2]):=fun a w st mm=>by
 obtain⟨e,seen0,hs,he,hk,hv⟩:=hA
 have hr:w.heap[r]? = some (.mapIter (some m) S.clock (seen0.push e.born) S.clock):=by
  have:=mm.holds _ h1;rw[←hs];exact this
 have hb:w.heap[m]? = some (.map S.es S.clock):=mm.holds _ h2
 simp only[execOp,st.ev hx,Sem.run_bind,run_entry_at w r m S.clock seen0 S.es S.clock e hr hb he hO.nd,Result.andThen_ok,Sem.run_pure,hk,hv]
def b7f {κ:Type} [DecidableEq κ]:List (κ×Value)→κ→List (κ×Value)
 | [],_=>[]
 |(k',v)::r,k=>if k'=k then r else (k',v)::b7f r k
theorem c1F {kvs:List (κ×Value)} {k:κ}:∀{i},a2I kvs k i=none→b7f kvs k=kvs:=by
 induction kvs with
 |nil=>intro i _;rfl
 |cons p r ih=>
  obtain⟨k',u⟩:=p;intro i h
  simp only[a2I]at h
  split at h
  ·cases h
  ·rename_i hne;simp only[b7f,if_neg hne,ih h]
theorem c1G {kvs:List (κ×Value)} {k:κ}:∀{i j u},a2I kvs k i=some (j,u)→i≤j∧j-i<kvs.length∧b7f kvs k=kvs.eraseIdx (j-i):=by
 induction kvs with
 |nil=>intro i j u h;cases h
 |cons p r ih=>
  obtain⟨k',u'⟩:=p;intro i j u h
  simp only[a2I]at h
  split at h
  ·rename_i he
   simp only[Option.some.injEq,Prod.mk.injEq]at h
   obtain⟨rfl,rfl⟩:=h;exact⟨Nat.le_refl _,by simp,by simp[b7f,he]⟩
  ·rename_i hne
   obtain⟨h1,h2,h3⟩:=ih h;refine⟨oM,by simp only[List.length_cons];omega,?_⟩;rw[show j-i=(j-(i+1))+1 from oM,List.eraseIdx_cons_succ,b7f,if_neg hne,h3]
theorem a9N:∀{kvs:List (κ×Value)} {k:κ},(kvs.map Prod.fst).Nodup→b7f kvs k=kvs.filter (fun p=>!decide (p.1=k))
 | [],k,_=>rfl
 |(k',v)::r,k,h=>by
  rw[List.map_cons,List.nodup_cons]at h
  simp only[b7f,List.filter_cons]
  split
  ·rename_i he
   subst he
   simp only[decide_true,Bool.not_true,Bool.false_eq_true,if_false]
   refine (List.filter_eq_self.2 fun p hp=>?_).symm
   have:p.1≠k':=fun e=>by
    have h9:p.1∈r.map Prod.fst:=List.mem_map_of_mem (f:=Prod.fst) hp;rw[e]at h9
    exact h.1 h9
   simpa using this
  ·rename_i hne
   simp only[hne,decide_false,Bool.not_false,if_true]
   rw[a9N h.2]
theorem b7v {mt kt et:Nat} {ats:List TypeId} (hK:KeyOK P kt enc) (ht:P.underlying mt=some (.map kt et)) (key:κ) (hx:ev L x=some (.map (some m))) (hy:ev L y=some (enc key))
  (k:SX n E I L (.mp m (a1u enc (b7f kvs key))::H) K):SX n E I L (.mp m (a1u enc kvs)::H) (one P ops Q ⟨none,.call { callee:=.builtin .delete,args:=#[x,y],argTypes:=(mt::ats).toArray },ty,pos,af,none⟩ K):=by
 intro a w st mm;unfold one;rw[if_pos (by rfl)];obtain⟨entries,clock,h1,h2,h3,h4⟩:=mm.mp (List.mem_cons_self ..);have hlt:m<w.heap.size:=(Array.getElem?_eq_some_iff.1 h1).1;have hf:=hK.find w key entries.toList kvs h2;have hset:∀o:Obj,(setObj m o).run P w = .ok () { w with heap:=w.heap.setIfInBounds m o }:=fun o=>by simp[setObj,Sem.run,h1]
 have hnew:∀o:Obj,({ w with heap:=w.heap.setIfInBounds m o }:World).heap[m]? = some o:=fun o=>by simp[hlt]
 have hstep:∀(o:Obj),c3P o (a1u enc (b7f kvs key))→Mem E I (.mp m (a1u enc (b7f kvs key))::H) { w with heap:=w.heap.setIfInBounds m o }:=fun o ho=>
  mm.step rfl ⟨rfl,Nat.le_refl _⟩ rfl (by simp) (fun k hk hne=>by
   have:m≠k:=fun e=>hne (by rw[←e];rfl)
   simp[Array.getElem?_setIfInBounds_ne this]) ⟨o,hnew o,ho⟩ (fun g hg=>.inl hg)
 have key0:∃o,c3P o (a1u enc (b7f kvs key))∧(execOp a.eval ⟨none,.call { callee:=.builtin .delete,args:=#[x,y],argTypes:=(mt::ats).toArray },ty,pos,af,none⟩).run P w = .ok (.value (.tuple #[])) { w with heap:=w.heap.setIfInBounds m o }:=by
  cases hm:a2I kvs key 0 with
  |none=>
   refine⟨.map entries clock,⟨_,_,rfl,by rw[c1F hm];exact h2,h3,h4⟩,?_⟩
   simp[execOp,resolve,invoke,builtin,st.ev hx,st.ev hy,Builtin.delete_,run_underlying ht,a5b h1,hK.check,hf,hm,hset]
  |some q=>
   obtain⟨j,u⟩:=q;obtain⟨_,hj,hp⟩:=c1G hm
   simp only[Nat.sub_zero]at hj hp
   have hsub:List.Sublist (entries.eraseIdxIfInBounds j).toList entries.toList:=by
    rw[Array.toList_eraseIdxIfInBounds];exact List.eraseIdx_sublist _ _
   refine⟨.map (entries.eraseIdxIfInBounds j) clock,⟨_,_,rfl,?_,(hsub.map _).nodup h3,fun e he=>h4 e (hsub.subset he)⟩,?_⟩
   ·have hem:∀{α β:Type} (l:List α) (f:α→β) (i:Nat),(l.eraseIdx i).map f=(l.map f).eraseIdx i:=fun l f i=>by
     rw[List.eraseIdx_eq_take_drop_succ,List.eraseIdx_eq_take_drop_succ];simp
    rw[Array.toList_eraseIdxIfInBounds,hem,h2,hp,a1u,a1u,hem]
   ·simp[execOp,resolve,invoke,builtin,st.ev hx,st.ev hy,Builtin.delete_,run_underlying ht,a5b h1,hK.check,hf,hm,hset]
 obtain⟨o,ho,hr⟩:=key0;rw[a8U hr];exact k _ _ st (hstep o ho)
end
theorem ItS.Step.some {κ:Type} {enc:κ→Value} {kvs todo t':List (κ×Value)} {S S':ItS} {q:Option (κ×Value)} (h:ItS.Step enc kvs todo S q S' t') (hq:q.isSome=true) :
  ∃p a b,todo=a++p::b∧S'.Ok enc kvs∧S'.Todo enc (a++b)∧S'.At enc p∧q = .some p∧t'=a++b:=by
 cases h with
 |over h=>cases hq
 |come p a b S1 h h1 h2 h3=>exact⟨p,a,b,h,h1,h2,h3,rfl,rfl⟩
theorem ItS.Step.none {κ:Type} {enc:κ→Value} {kvs todo t':List (κ×Value)} {S S':ItS} {q:Option (κ×Value)} (h:ItS.Step enc kvs todo S q S' t') (hq:q.isSome=false):todo=[]∧q = .none∧S'=S:=by
 cases h with
 |over h=>exact⟨h,rfl,rfl⟩
 |come p a b S1 h h1 h2 h3=>cases hq
theorem a4n {α:Type} {done todo a b kvs:List α} {p:α} (hP:(done++todo).Perm kvs) (h:todo=a++p::b):(done++[p]++(a++b)).Perm kvs:=by
 subst h;refine List.Perm.trans ?_ hP;rw[List.append_assoc];refine List.Perm.append_left _ ?_;exact (List.perm_middle (a:=p) (l₁:=a) (l₂:=b)).symm
theorem c5M {α:Type} {done todo a b kvs:List α} {p:α} (hP:(done++todo).Perm kvs) (h:todo=a++p::b):p∈kvs:=hP.mem_iff.1 (by rw[h];simp)
end Go.Sx
set_option linter.all false
namespace Go.Sx
open Go
abbrev NU:=ByteArray×ByteArray
def a2T (R:List NU):List (ByteArray×Value):=R.map fun p=>(p.1,Value.string p.2)
theorem b3y (R:List NU):(a2T R).map Prod.fst=R.map Prod.fst:=by simp[a2T]
theorem b7l:∀{kvs:List (ByteArray×Value)} {k:ByteArray} {v:Value},k∉kvs.map Prod.fst→a3P kvs k v=kvs++[(k,v)]
 | [],_,_,_=>rfl
 |(k',u)::r,k,v,h=>by
  simp only[List.map_cons,List.mem_cons,not_or]at h
  have hne:¬k'=k:=fun e=>h.1 (e▸rfl)
  simp only[a3P,if_neg hne,b7l h.2,List.cons_append]
theorem c0O {R:List NU} {k u:ByteArray} (h:k∉R.map Prod.fst):a3P (a2T R) k (.string u)=a2T (R++[(k,u)]):=by
 rw[b7l (by rw[b3y];exact h)];simp[a2T]
theorem b3x {R:List NU} {k:ByteArray} (h:(R.map Prod.fst).Nodup):b7f (a2T R) k=a2T (R.filter fun p=>!decide (p.1=k)):=by
 rw[a9N (by rw[b3y];exact h)];unfold a2T;rw[List.filter_map];rfl
theorem b7j:∀{kvs:List (ByteArray×Value)} {k:ByteArray} {v:Value},(kvs.map Prod.fst).Nodup→(k,v)∈kvs→a3U kvs k=some v
 |(k',u)::r,k,v,hn,h=>by
  rw[List.map_cons,List.nodup_cons]at hn
  simp only[a3U]
  rcases List.mem_cons.1 h with h|h
  ·cases h;simp
  ·have:k'≠k:=fun e=>by
    have h9:k∈r.map Prod.fst:=List.mem_map_of_mem (f:=Prod.fst) h;rw[←e]at h9
    exact hn.1 h9
   rw[if_neg this];exact b7j hn.2 h
theorem b7h:∀{kvs:List (ByteArray×Value)} {k:ByteArray} {v:Value},a3U kvs k=some v→k∈kvs.map Prod.fst
 |(k',u)::r,k,v,h=>by
  simp only[a3U]at h
  split at h
  ·rename_i e;simp[e]
  ·simp[b7h h]
theorem Ix.mem {kvs:List (ByteArray×Value)} {l:List Part} {k:ByteArray} {v:Value} (h:Ix kvs l) (hn:(kvs.map Prod.fst).Nodup) (hp:(k,v)∈kvs):∃(i:Nat) (hi:i<l.length),v=ci (i:Nat)∧a0f l k=some l[i]:=by
 have h1:=b7j hn hp;rw[h k]at h1
 cases hf:l.findIdx? (fun p=>decide (p.name=k)) with
 |none=>rw[hf]at h1;cases h1
 |some i=>
  rw[hf]at h1
  simp only[Option.map_some,Option.some.injEq]at h1
  rw[List.findIdx?_eq_some_iff_getElem]at hf
  obtain⟨hi,hq,hb⟩:=hf;refine⟨i,hi,h1.symm,?_⟩;rw[a0f,List.find?_eq_some_iff_getElem];exact⟨hq,i,hi,rfl,fun j hj=>by simpa using hb j hj⟩
theorem Ix.has {kvs:List (ByteArray×Value)} {l:List Part} {k:ByteArray} (h:Ix kvs l) (hs:(a0f l k).isSome=true):k∈kvs.map Prod.fst:=by
 have h1:=h k
 cases hf:l.findIdx? (fun p=>decide (p.name=k)) with
 |none=>
  exfalso
  rw[List.findIdx?_eq_none_iff]at hf
  obtain⟨p,hp⟩:=Option.isSome_iff_exists.1 hs;have h2:=List.mem_of_find?_eq_some hp;have h3:=List.find?_some hp;rw[hf p h2]at h3;cases h3
 |some i=>rw[hf]at h1;exact b7h h1
theorem b0q {l:List Part} {n:ByteArray} (h:upP l n≠a0O):(a0f l n).isSome=true:=by
 unfold upP at h
 cases hf:a0f l n with
 |none=>rw[hf]at h;exact absurd rfl h
 |some p=>rfl
def a3Z (l:List Part) (ks:List ByteArray):List NU:=(ks.filter fun n=>!decide (upP l n=a0O)).map fun n=>(n,upP l n)
section
variable {l:List Part} {v:ByteArray} {R:List NU} {lst out more:List ByteArray} {kvs todo done:List (ByteArray×Value)}
theorem c4J {ks:List ByteArray} {n:ByteArray} (h:upP l n≠a0O):a3Z l (ks++[n])=a3Z l ks++[(n,upP l n)]:=by simp[a3Z,h]
theorem c9d {ks:List ByteArray} {n:ByteArray} (h:upP l n=a0O):a3Z l (ks++[n])=a3Z l ks:=by simp[a3Z,h]
theorem b2e (ks:List ByteArray):(a3Z l ks).map Prod.fst=ks.filter fun n=>!decide (upP l n=a0O):=by unfold a3Z;rw[List.map_map];exact List.map_id _
theorem c4H {ks:List ByteArray} {n u:ByteArray}:(n,u)∈a3Z l ks↔n∈ks∧upP l n=u∧u≠a0O:=by
 unfold a3Z;rw[List.mem_map]
 constructor
 ·rintro⟨m,hm,e⟩
  cases e
  have:=List.mem_filter.1 hm;exact⟨this.1,rfl,by simpa using this.2⟩
 ·rintro⟨h1,rfl,h2⟩;exact⟨n,List.mem_filter.2 ⟨h1,by simpa using h2⟩,rfl⟩
def b1j (l:List Part):Nat:=(l.filter fun p=>!decide (p.into=a0O)).length
theorem c4G {ks:List ByteArray} (hn:ks.Nodup):(a3Z l ks).length≤b1j l:=by
 unfold a3Z b1j;rw[List.length_map,show (l.filter fun p=>!decide (p.into=a0O)).length=((l.filter fun p=>!decide (p.into=a0O)).map Part.name).length from (List.length_map _).symm];refine List.Nodup.length_le_of_subset (List.filter_sublist.nodup hn) fun n hm=>?_
 have h1:=(List.mem_filter.1 hm).2;have h2:upP l n≠a0O:=by simpa using h1
 obtain⟨p,hp⟩:=Option.isSome_iff_exists.1 (b0q h2);have hpn:p.name=n:=by simpa using List.find?_some hp
 refine List.mem_map.2 ⟨p,List.mem_filter.2 ⟨List.mem_of_find?_eq_some hp,?_⟩,hpn⟩;unfold upP at h2
 rw[hp]at h2
 simpa using h2
structure Bfs (l:List Part) (v:ByteArray) (R:List NU) (lst out:List ByteArray):Prop where
 kn:(R.map Prod.fst).Nodup
 rest:∀n u,(n,u)∈R↔(upP l n=u∧u≠a0O)∧n≠v∧n∉out
 ins:∀n∈out,a8W l v n
 lst':∀x∈lst,x=v∨x∈out
 proc:∀x,(x=v∨x∈out)→x∉lst→∀n,(n,x)∉R
 len:out.length+R.length≤b1j l
 ond:out.Nodup
theorem Bfs.start (hx:Ix kvs l) (hn:(kvs.map Prod.fst).Nodup) (hd:done.Perm kvs):Bfs l v ((a3Z l (done.map Prod.fst)).filter fun p=>!decide (p.1=v)) [v] []:=by
 have hdn:(done.map Prod.fst).Nodup:=((hd.map _).nodup_iff).2 hn
 have hR:∀n u,(n,u)∈(a3Z l (done.map Prod.fst)).filter (fun p=>!decide (p.1=v))↔(upP l n=u∧u≠a0O)∧n≠v:=fun n u=>by
  rw[List.mem_filter,c4H]
  constructor
  ·rintro⟨⟨_,h2⟩,h3⟩;exact⟨h2,by simpa using h3⟩
  ·rintro⟨⟨rfl,h2⟩,h3⟩;refine⟨⟨?_,rfl,h2⟩,by simpa using h3⟩;exact (hd.map Prod.fst).mem_iff.2 (hx.has (b0q h2))
 refine⟨?_,fun n u=>by rw[hR];simp,fun n h=>(by cases h),fun x h=>.inl (List.mem_singleton.1 h),fun x h hx=>?_,?_,?_⟩
 ·have h1:((a3Z l (done.map Prod.fst)).map Prod.fst).Nodup:=by rw[b2e];exact List.filter_sublist.nodup hdn
  exact (List.filter_sublist.map _).nodup h1
 ·rcases h with h|h
  ·exact absurd (List.mem_singleton.2 h) hx
  ·cases h
 ·have:=c4G (l:=l) hdn;have h2:=List.length_filter_le (fun p:NU=>!decide (p.1=v)) (a3Z l (done.map Prod.fst))
  simp only[List.length_nil];omega
 ·exact List.nodup_nil
def a2m (lst:List ByteArray) (done:List NU):List ByteArray:=(done.filter fun p=>decide (p.2∈lst)).map Prod.fst
theorem b3W {done:List NU} {p:NU} (h:p.2∈lst):a2m lst (done++[p])=a2m lst done++[p.1]:=by simp[a2m,h]
theorem b7q {done:List NU} {p:NU} (h:¬p.2∈lst):a2m lst (done++[p])=a2m lst done:=by simp[a2m,h]
theorem c1L (done:List NU):(a2m lst done).length≤done.length:=by unfold a2m;rw[List.length_map];exact List.length_filter_le _ _
theorem a7i {done:List NU} (hd:done.Perm R) {n:ByteArray}:n∈a2m lst done↔∃u,(n,u)∈R∧u∈lst:=by
 unfold a2m;rw[List.mem_map]
 constructor
 ·rintro⟨⟨m,u⟩,hp,rfl⟩;have:=List.mem_filter.1 hp;exact⟨u,hd.mem_iff.1 this.1,by simpa using this.2⟩
 ·rintro⟨u,h1,h2⟩;exact⟨(n,u),List.mem_filter.2 ⟨hd.mem_iff.2 h1,by simpa using h2⟩,rfl⟩
def a7q (R:List NU) (more:List ByteArray):List NU:=R.filter fun p=>!decide (p.1∈more)
theorem c2y:a7q R []=R:=by unfold a7q;rw[List.filter_eq_self];intro p _;simp
theorem b7K (h:(R.map Prod.fst).Nodup) (more:List ByteArray):((a7q R more).map Prod.fst).Nodup:=(List.filter_sublist.map _).nodup h
theorem b9u {i:Nat} (hi:i<more.length) (h:(R.map Prod.fst).Nodup):b7f (a2T (a7q R (more.take i))) more[i]=a2T (a7q R (more.take (i+1))):=by
 rw[b3x (b7K h _)];unfold a7q;rw[List.filter_filter]
 congr 2
 funext p
 rw[←a0c hi]
 simp only[List.mem_append,List.mem_singleton]
 by_cases h1:p.1=more[i]<;>by_cases h2:p.1∈more.take i<;>simp[h1,h2]
theorem d5M {n u u':ByteArray} (h:(R.map Prod.fst).Nodup) (h1:(n,u)∈R) (h2:(n,u')∈R):u=u':=by
 induction R with
 |nil=>cases h1
 |cons p R ih=>
  rw[List.map_cons,List.nodup_cons]at h
  rcases List.mem_cons.1 h1 with h1|h1
  ·rcases List.mem_cons.1 h2 with h2|h2
   ·rw[←h1]at h2;exact (Prod.mk.inj h2).2.symm
   ·exact absurd (List.mem_map_of_mem (f:=Prod.fst) h2) (by rw[←h1]at h;exact h.1)
  ·rcases List.mem_cons.1 h2 with h2|h2
   ·exact absurd (List.mem_map_of_mem (f:=Prod.fst) h1) (by rw[←h2]at h;exact h.1)
   ·exact ih h.2 h1 h2
theorem b7r {done:List NU} (hk:(R.map Prod.fst).Nodup) (hd:done.Perm R):(a2m lst done).length+(a7q R (a2m lst done)).length=R.length:=by
 have h1:(a2m lst done).length=R.countP (fun p=>decide (p.2∈lst)):=by
  unfold a2m;rw[List.length_map,←List.countP_eq_length_filter];exact hd.countP_eq _
 have h2:a7q R (a2m lst done)=R.filter (fun p=>decide ¬(decide (p.2∈lst)=true)):=by
  unfold a7q;refine List.filter_congr fun p hp=>?_
  rw[Bool.eq_iff_iff]
  simp only[Bool.not_eq_true',decide_eq_false_iff_not,decide_eq_true_eq]
  refine not_congr ?_;rw[a7i hd];exact⟨fun ⟨u,h3,h4⟩=>by rw[d5M hk hp h3];exact h4,fun h=>⟨p.2,hp,h⟩⟩
 rw[h1,h2,←List.countP_eq_length_filter];exact (List.length_eq_countP_add_countP (fun p:NU=>decide (p.2∈lst))).symm
theorem Bfs.step {done:List NU} (hv:(a0f l v).isSome=true) (h:Bfs l v R lst out) (hd:done.Perm R):Bfs l v (a7q R (a2m lst done)) (a2m lst done) (out++a2m lst done):=by
 have hsub:∀{p:NU},p∈a7q R (a2m lst done)↔p∈R∧p.1∉a2m lst done:=fun {p}=>by unfold a7q;rw[List.mem_filter];simp
 refine⟨b7K h.kn _,fun n u=>?_,fun n hn=>?_,fun x hx=>.inr (List.mem_append.2 (.inr hx)),fun x hx hnx n hm=>?_,?_,?_⟩
 ·rw[hsub,h.rest,List.mem_append,not_or]
  simp only[and_assoc]
 ·rcases List.mem_append.1 hn with hn|hn
  ·exact h.ins n hn
  ·obtain⟨u,h1,h2⟩:=(a7i hd).1 hn;obtain⟨⟨h3,h4⟩,h5,h6⟩:=(h.rest n u).1 h1;have hup:upP l n≠a0O:=by rw[h3];exact h4
   refine⟨⟨hv,b0q hup,h5⟩,?_⟩
   rcases h.lst' u h2 with rfl|hu
   ·exact⟨1,by unfold a3a;rw[h3];simp[h4]⟩
   ·obtain⟨_,k,hk⟩:=h.ins u hu;exact⟨k+1,by unfold a3a;rw[h3];simp[h4,hk]⟩
 ·obtain⟨hm1,hm2⟩:=hsub.1 hm
  have hx':x=v∨x∈out:=by
   rcases hx with hx|hx
   ·exact .inl hx
   ·rcases List.mem_append.1 hx with hx|hx
    ·exact .inr hx
    ·exact absurd hx hnx
  by_cases hl:x∈lst
  ·exact hm2 ((a7i hd).2 ⟨x,hm1,hl⟩)
  ·exact h.proc x hx' hl n hm1
 ·have h1:=h.len;have h2:=b7r (lst:=lst) h.kn hd;rw[List.length_append];omega
 ·rw[List.nodup_append];refine⟨h.ond,?_,fun a ha b hb e=>?_⟩
  ·unfold a2m;exact (List.filter_sublist.map _).nodup (((hd.map Prod.fst).nodup_iff).2 h.kn)
  ·subst e;obtain⟨u,h1,_⟩:=(a7i hd).1 hb;exact ((h.rest a u).1 h1).2.2 ha
theorem b3Z:∀(m out:List ByteArray),out.Nodup→m.length≤out.length→(∀x,x∈out→x∈m)→m.Nodup
 | [],_,_,_,_=>List.nodup_nil
 |y::m,out,hn,hl,hs=>by
  have hy:y∉m:=fun h=>by
   have:=List.Nodup.length_le_of_subset (l₂:=m) hn fun x hx=>by
    rcases List.mem_cons.1 (hs x hx) with rfl|h2
    ·exact h
    ·exact h2
   simp at hl;omega
  refine List.nodup_cons.2 ⟨hy,b3Z m (out.filter fun x=>!decide (x=y)) (List.filter_sublist.nodup hn) ?_ fun x hx=>?_⟩
  ·have h1:out.countP (fun x=>decide (x=y))≤1:=by
    have h2:=List.Nodup.length_le_of_subset (l₁:=out.filter fun x=>decide (x=y)) (l₂:=[y]) (List.filter_sublist.nodup hn) fun x hx=>by
     have:=(List.mem_filter.1 hx).2;rw[decide_eq_true_eq]at this;simp[this]
    rw[List.countP_eq_length_filter];simpa using h2
   have h3:=List.length_eq_countP_add_countP (fun x=>decide (x=y)) (l:=out)
   have h4:(out.filter fun x=>!decide (x=y)).length=out.countP (fun x=>decide ¬(decide (x=y)=true)):=by
    rw[←List.countP_eq_length_filter];refine List.countP_congr fun x _=>?_
    simp
   rw[h4];simp at hl;omega
  ·obtain⟨h1,h2⟩:=List.mem_filter.1 hx
   rcases List.mem_cons.1 (hs x h1) with rfl|h3
   ·simp at h2
   ·exact h3
theorem Bfs.over (h:Bfs l v R [] out) {n:ByteArray}:n∈out↔a8W l v n:=by
 refine⟨h.ins n,fun ⟨⟨_,hf,hnv⟩,k,hk⟩=>?_⟩
 have key:∀(k:Nat) (n:ByteArray),n≠v→a3a l v k n=true→n∈out:=by
  intro k
  induction k with
  |zero=>intro n _ h;cases h
  |succ k ih=>
   intro n hn hr
   simp only[a3a,Bool.and_eq_true,Bool.not_eq_true',decide_eq_false_iff_not,Bool.or_eq_true,decide_eq_true_eq]at hr
   obtain⟨h1,h2⟩:=hr;refine Classical.byContradiction fun hc=>?_
   have hR:=(h.rest n (upP l n)).2 ⟨⟨rfl,h1⟩,hn,hc⟩
   by_cases hv:upP l n=v
   ·exact h.proc _ (.inl hv) (by simp) n hR
   ·exact h.proc _ (.inr (ih _ hv (h2.resolve_left hv))) (by simp) n hR
 exact key k n hnv hk
theorem c9U (h:a0f l v=none) (n:ByteArray):¬a8W l v n:=fun ⟨⟨h1,_⟩,_⟩=>by rw[h]at h1;cases h1
end
end Go.Sx
set_option linter.all false
namespace Go.Sx
open Go
section
variable {c:List Kind} {l own:List Rep} {R:Nat→Nat} {p q y z:ByteArray} {day:Int} {α β:Type} [DecidableEq α] [DecidableEq β] {lt:α→α→Bool} {lt':β→β→Bool} {f:List Part→α} {g:List Part→β} {s:List Part}
theorem b9U:l.any (fun r=>!a0l r)=false↔∀r∈l,a0l r=true:=by
 rw[List.any_eq_false];exact⟨fun h r hr=>by simpa using h r hr,fun h r hr=>by simp[h r hr]⟩
theorem b0a (h:∀r∈l,a0l r=true):∀r∈a3V l R p,a0l r=true:=fun r hr=>h r (b5U hr)
end
end Go.Sx
set_option linter.all false
namespace Go.Sx
open Go
section
variable {l:List Rep} {R:Nat→Nat} {p:ByteArray} {k:Nat}
theorem c8g (hR:Rts l R) (h:∀i,i<l.length→R i=R 0) (hk:k<l.length) (hn:nm l[k] p):a3V l R p=l:=by
 have e:a5u R l.length (R k)=List.range l.length:=List.filter_eq_self.2 fun i hi=>decide_eq_true (by rw[h i (List.mem_range.1 hi),h k hk])
 unfold a3V;rw[c1R hR hk hn,e,b0d]
end
def c5G {α:Type} [DecidableEq α] (l:List α):List α:=l.foldl (fun a x=>if x∈a then a else a++[x]) []
section
variable {α:Type} [DecidableEq α] {lt:α→α→Bool}
theorem b5N:∀(l a:List α),a.Nodup→(l.foldl (fun a x=>if x∈a then a else a++[x]) a).Nodup∧∀z,z∈l.foldl (fun a x=>if x∈a then a else a++[x]) a↔z∈a∨z∈l
 | [],a,h=>⟨h,fun z=>by simp⟩
 |x::l,a,h=>by
  rw[List.foldl_cons]
  by_cases hx:x∈a
  ·rw[if_pos hx];obtain⟨h1,h2⟩:=b5N l a h;refine⟨h1,fun z=>?_⟩;rw[h2,List.mem_cons]
   constructor
   ·rintro (h|h)
    ·exact .inl h
    ·exact .inr (.inr h)
   ·rintro (h|rfl|h)
    ·exact .inl h
    ·exact .inl hx
    ·exact .inr h
  ·rw[if_neg hx]
   have hn:(a++[x]).Nodup:=by
    rw[List.nodup_append];refine⟨h,by simp,?_⟩;intro y hy z hz e;rw[List.mem_singleton.1 hz]at e
    subst e;exact hx hy
   obtain⟨h1,h2⟩:=b5N l (a++[x]) hn;refine⟨h1,fun z=>?_⟩;rw[h2,List.mem_append,List.mem_singleton,List.mem_cons,or_assoc]
theorem b7z (l:List α):(c5G l).Nodup∧∀z,z∈c5G l↔z∈l:=by
 obtain⟨h1,h2⟩:=b5N l [] List.nodup_nil;exact⟨h1,fun z=>by unfold c5G;rw[h2];simp⟩
end
end Go.Sx
set_option linter.all false
namespace Go.Sx
open Go
def b7A (st:List Part):ByteArray→Nat→ByteArray
 |n,0=>n
 |n,j+1=>b7A st (upP st n) j
section
variable {st:List Part} {v n:ByteArray} {k i j:Nat}
theorem c1X:∀(j:Nat) (n:ByteArray),upP st (b7A st n j)=b7A st n (j+1)
 |0,n=>rfl
 |j+1,n=>c1X j (upP st n)
theorem c1W:∀(t a b:Nat),b7A st n a=b7A st n b→b7A st n (a+t)=b7A st n (b+t)
 |0,a,b,h=>h
 |t+1,a,b,h=>by
  rw[←Nat.add_assoc,←Nat.add_assoc,←c1X,←c1X,c1W t a b h]
theorem b4t:∀(k:Nat) (n:ByteArray),a3a st v k n=true↔∃i,i<k∧(∀j,j≤i→upP st (b7A st n j)≠a0O)∧upP st (b7A st n i)=v
 |0,n=>by simp[a3a]
 |k+1,n=>by
  simp only[a3a,Bool.and_eq_true,Bool.not_eq_true',decide_eq_false_iff_not,Bool.or_eq_true,decide_eq_true_eq,b4t k]
  constructor
  ·rintro⟨h0,h|⟨i,hi,h1,h2⟩⟩
   ·exact⟨0,oM,fun j hj=>by (obtain rfl:j=0:=oM);exact h0,h⟩
   ·refine⟨i+1,oM,fun j hj=>?_,h2⟩
    cases j with
    |zero=>exact h0
    |succ j=>exact h1 j oM
  ·rintro⟨i,hi,h1,h2⟩;refine⟨h1 0 oM,?_⟩
   cases i with
   |zero=>exact .inl h2
   |succ i=>exact .inr ⟨i,oM,fun j hj=>h1 (j+1) oM,h2⟩
theorem c5o {p:Nat→Prop}:∀(i:Nat),p i→∃m,m≤i∧p m∧∀j,j<m→¬p j:=by
 intro i
 induction i using Nat.strongRecOn with
 |ind i ih=>
  intro h
  by_cases hq:∃j,j<i∧p j
  ·obtain⟨j,hj,hp⟩:=hq;obtain⟨m,h1,h2,h3⟩:=ih j hj hp;exact⟨m,oM,h2,h3⟩
  ·exact⟨i,Nat.le_refl _,h,fun j hj hp=>hq ⟨j,hj,hp⟩⟩
theorem b6b (h:a3a st v k n=true):a3a st v st.length n=true:=by
 rw[b4t]at h ⊢
 obtain⟨i,_,h1,h2⟩:=h;obtain⟨m,hm,hpm,hmin⟩:=c5o (p:=fun i=>upP st (b7A st n i)=v) i h2;refine⟨m,?_,fun j hj=>h1 j oM,hpm⟩
 have hinj:∀a b,a<b→b≤m→b7A st n a≠b7A st n b:=fun a b hab hb e=>by
  have e2:=c1W (st:=st) (n:=n) (m-b) a b e;rw[show b+(m-b)=m from by omega]at e2
  exact hmin (a+(m-b)) oM (by show upP st (b7A st n (a+(m-b)))=v;rw[e2];exact hpm)
 have hnd:((List.range (m+1)).map (b7A st n)).Nodup:=by
  rw[List.nodup_iff_pairwise_ne,List.pairwise_map];refine List.Pairwise.imp_of_mem (fun {a b} ha hb hab=>?_) List.pairwise_lt_range;exact hinj a b hab (by have:=List.mem_range.1 hb;omega)
 have hlen:=List.Nodup.length_le_of_subset (l₂:=st.map Part.name) hnd fun x hx=>by
  obtain⟨j,hj,rfl⟩:=List.mem_map.1 hx;have hs:=b0q (h1 j (by have:=List.mem_range.1 hj;omega));obtain⟨p,hp⟩:=Option.isSome_iff_exists.1 hs;have h8:=List.mem_of_find?_eq_some hp;have h9:=List.find?_some hp;exact List.mem_map.2 ⟨p,h8,by simpa using h9⟩
 simp at hlen;omega
def d5F (st:List Part) (v n:ByteArray):Bool:=((a0f st v).isSome&&((a0f st n).isSome && !decide (n=v)))&&a3a st v st.length n
theorem c4W:d5F st v n=true↔a8W st v n:=by
 simp only[d5F,a8W,Bool.and_eq_true,Bool.not_eq_true',decide_eq_false_iff_not]
 constructor
 ·rintro⟨⟨h1,h2,h3⟩,h4⟩;exact⟨⟨h1,h2,h3⟩,_,h4⟩
 ·rintro⟨⟨h1,h2,h3⟩,k,h4⟩;exact⟨⟨h1,h2,h3⟩,b6b h4⟩
def d1D (st:List Part) (v:ByteArray):List ByteArray:=c5G ((st.map Part.name).filter (d5F st v))
theorem c9u:(d1D st v).Nodup:=(b7z _).1
theorem b6T:n∈d1D st v↔a8W st v n:=by
 unfold d1D;rw[(b7z _).2,List.mem_filter,c4W]
 constructor
 ·exact fun h=>h.2
 ·intro h;refine⟨?_,h⟩;obtain⟨p,hp⟩:=Option.isSome_iff_exists.1 h.1.2.1;have h8:=List.mem_of_find?_eq_some hp;have h9:=List.find?_some hp;exact List.mem_map.2 ⟨p,h8,by simpa using h9⟩
end
end Go.Sx
set_option linter.all false
namespace Go.Sx
open Go
def d1A (P:Program):Nat→TypeId→Value→Bool
 |0,_,_=>false
 |d+1,t,x=>match P.underlying t with
  |some .bool|some (.int _)|some .string=>true
  |some (.struct fs)=>match x with
   |.agg xs=>fs.toList.all fun f=>match b4k P f.type xs.toList f.offset with|some v=>d1A P d f.type v|none=>false
   |_=>false
  |_=>false
theorem b6D {P:Program} {b:Bool}:∀(d:Nat) (t:TypeId) (v:Value),d1A P d t v=true→∀(n:Nat),d≤n→∀w:World,(Instr.checkKey b n t v).run P w = .ok () w
 |0,_,_,h,_,_,_=>by simp[d1A]at h
 |d+1,t,v,h,n,hn,w=>by
  obtain⟨n,rfl⟩:∃q,n=q+1:=⟨n-1,oM⟩;rw[d1A]at h
  rw[Instr.checkKey]
  split at h
  ·rename_i hu;simp[run_underlying hu]
  ·rename_i hu;simp[run_underlying hu]
  ·rename_i hu;simp[run_underlying hu]
  ·rename_i fs hu
   split at h
   ·rename_i xs
    simp only[Sem.run_bind,run_underlying hu,Result.andThen_ok]
    rw[←Array.forIn_toList]
    have key:∀l:List Field,(∀f∈l,(match b4k P f.type xs.toList f.offset with|some v=>d1A P d f.type v|none=>false)=true)→∀w:World,
      (forIn l PUnit.unit fun f (_:PUnit)=>do
       if f.name ≠ "_" then do
        let __do_lift ←part f.type xs f.offset
        Instr.checkKey b n f.type __do_lift
        pure PUnit.unit
        pure (ForInStep.yield PUnit.unit)
       else do
        pure PUnit.unit
        pure (ForInStep.yield PUnit.unit):Sem PUnit).run P w = .ok () w:=by
     intro l
     induction l with
     |nil=>intro _ w;simp
     |cons f l ih=>
      intro hl w;have h1:=hl f (by simp)
      split at h1
      ·rename_i v hv
       have e1:=a5H hv w;have e2:=b6D (b:=b) d f.type v h1 n oM w;have e3:=ih (fun g hg=>hl g (by simp[hg])) w;rw[List.forIn_cons]
       by_cases hf : f.name ≠ "_"
       ·simp only[if_pos hf,Sem.run_bind,e1,Result.andThen_ok,e2,Sem.run_pure]
        exact e3
       ·simp only[if_neg hf,Sem.run_bind,Result.andThen_ok,Sem.run_pure]
        exact e3
      ·cases h1
    have:=key fs.toList (by rw[List.all_eq_true]at h;exact h) w;rw[this]
    simp
   ·cases h
  ·cases h
def b0n (P:Program) (kt:TypeId):Bool:=match P.underlying kt with
 |some (.struct _)=>true
 |_=>false
theorem a7R {κ:Type} [DecidableEq κ] {P:Program} {kt:TypeId} {cells:κ→List Value} (h:b0n P kt=true) (he:∀p q,eqV P 9 kt (.agg (cells p).toArray) (.agg (cells q).toArray)=some (decide (p=q)))
  (hc:∀p,d1A P 9 kt (.agg (cells p).toArray)=true) (hb:∀p,(cells p).all (fun v=>Instr.sameBits 9999 v v)=true):KeyOK P kt (fun p=>.agg (cells p).toArray) where
 find:=by
  obtain⟨fs,h1⟩:∃fs,P.underlying kt=some (.struct fs):=by
   unfold b0n at h
   split at h
   ·rename_i fs hfs;exact⟨fs,hfs⟩
   ·cases h
  intro w k es kvs hes
  have key:∀(es:List MapEntry) (kvs:List (κ×Value)) (i:Nat),es.map (fun e=>(e.key,e.val))=a1u (fun p=>.agg (cells p).toArray) kvs→(Instr.findAsking kt (.agg (cells k).toArray) es i).run P w = .ok (a2I kvs k i) w:=by
   intro es
   induction es with
   |nil=>intro kvs i he;cases kvs<;>simp_all [a1u,Instr.findAsking,a2I]
   |cons e es ih=>
    intro kvs i hes
    cases kvs with
    |nil=>simp[a1u]at hes
    |cons p kvs=>
     obtain⟨k',v⟩:=p
     simp only[List.map_cons,a1u,List.cons.injEq,Prod.mk.injEq]at hes
     obtain⟨⟨h1,h2⟩,h3⟩:=hes;have hr:=b2c (P:=P) 9 kt _ _ _ (he k k') 10000 oM w
     simp only[Instr.findAsking,h1,Sem.run_bind,Op.equal,Op.maxDepth,hr,Result.andThen_ok]
     by_cases hk:k'=k
     ·subst hk;simp[a2I,h2]
     ·have:¬k=k':=fun e=>hk e.symm
      simp only[this,decide_false,Bool.false_eq_true,if_false,a2I,if_neg hk]
      exact ih kvs (i+1) h3
  simp only[Instr.findKey,Sem.run_bind,run_underlying h1,Result.andThen_ok]
  cases es with
  |nil=>cases kvs<;>simp_all [a1u,Instr.findNow,a2I]
  |cons e es=>
   have:Instr.findNow (.struct fs) (.agg (cells k).toArray) (e::es) 0=none:=by simp[Instr.findNow,Instr.sameNow]
   simp only[this]
   exact key _ kvs 0 hes
 check:=fun w b k=>b6D 9 kt _ (hc k) 10000 oM w
 same:=by
  intro k
  show Instr.sameBits (9999+1) (.agg (cells k).toArray) (.agg (cells k).toArray)=true
  have:=hb k;rw[List.all_eq_true]at this
  simp only[Instr.sameBits,beq_self_eq_true,Bool.true_and,List.all_eq_true]
  intro p hp;obtain⟨i,hi,rfl⟩:=List.getElem_of_mem hp
  simp only[List.getElem_zip]
  exact this _ (List.getElem_mem _)
theorem b1U (n:Nat) (s:ByteArray):Instr.sameBits n (.string s) (.string s)=true:=by
 have hs:(s == s)=true:=by rw[b6z];simp
 cases n<;>simp[Instr.sameBits,hs]
theorem b1T (n:Nat) (k:IntKind) (i:Int):Instr.sameBits n (.int k i) (.int k i)=true:=by cases n<;>simp[Instr.sameBits]
end Go.Sx
set_option linter.all false
namespace Go.Sx
open Go
def a9O (P:Program) (t:TypeId) (name:String):Option FuncId:=
 match P.info? t,P.underlying t with
 |some i,some (.struct _)=>match i.methods.find? (·.name == name) with
  |some m=>match m.path.toList,m.func with
   | [],some (f,false)=>some f
   |_,_=>none
  |none=>none
 |_,_=>none
theorem b1r {P:Program} {t:TypeId} {name:String} {f:FuncId} (h:a9O P t name=some f):∃i fs m,P.info? t=some i∧P.underlying t=some (.struct fs)∧i.methods.find? (·.name == name)=some m∧m.path.toList=[]∧m.func=some (f,false):=by
 unfold a9O at h
 split at h
 ·rename_i i fs h1 h2
  split at h
  ·rename_i m h3
   split at h
   ·rename_i h4 h5
    cases h
    exact⟨i,fs,m,h1,h2,h3,h4,h5⟩
   ·cases h
  ·cases h
 ·cases h
theorem b9w {P:Program} {t:TypeId} {name:String} {f:FuncId} (h:a9O P t name=some f) (v:Value) (w:World) (k:Nat):(method (k+1) t v name).run P w = .ok (f,v) w:=by
 obtain⟨i,fs,m,h1,h2,h3,h4,h5⟩:=b1r h;have hti:(typeInfo t).run P w = .ok i w:=by simp[typeInfo,h1]
 simp only[method,Sem.run_bind,hti,Result.andThen_ok,h3,h4,follow,Sem.run_pure,h5,receiverAt,run_underlying h2,Place.get]
theorem b4z {P:Program} {t:TypeId} {name:String} {f:FuncId} (h:a9O P t name=some f) (v:Value) (w:World) (k:Nat):(nilAhead (k+1) t v name).run P w = .ok (some false) w:=by
 obtain⟨i,fs,m,h1,h2,h3,h4,h5⟩:=b1r h;have hti:(typeInfo t).run P w = .ok i w:=by simp[typeInfo,h1]
 simp only[nilAhead,Sem.run_bind,hti,Result.andThen_ok,h3,h4,followBlind,Sem.run_pure,h5,run_underlying h2]
section
variable {P:Program} {n:Sz} {E:Ent} {I:IMap} {L:LL} {H:List Res} {Q:Exit→Act→World→Prop} {ops:Array Oper} {K:Act→World→Prop}
variable {d ty tx tyy:Nat} {pos:String} {af:Array Edge} {x y:Operand}
theorem b9v {a:Act} {w:World} {as_:List Operand} {ats:Array TypeId} {t:TypeId} {name:String} {f:FuncId} {v:Value} {vs:List Value} (s:St n a L) (hm:a9O P t name=some f) (hx:ev L x=some (.iface t v)) (hv:evs L as_=some vs) (o:Oper)
  (ho:o.op = .call { callee:=.invoke x name,args:=as_.toArray,argTypes:=ats }):(execOp a.eval o).run P w=(callFunc f (v::vs).toArray).run P w:=by
 have ha:as_.toArray.map a.eval=vs.toArray:=by rw[←a5T s as_ vs hv];simp
 have hd:∃q,P.types.size+Made.depth=q+1:=⟨P.types.size+99,rfl⟩;obtain⟨q,hq⟩:=hd;have e1:(#[Value.iface t v]++vs.toArray)[0]? = some (Value.iface t v):=by simp
 have e2:(#[Value.iface t v]++vs.toArray).extract 1 (#[Value.iface t v]++vs.toArray).size=vs.toArray:=by simp[List.extract]
 simp only[execOp,ho,resolve,ha,s.ev hx,Sem.run_bind,Sem.run_pure,Result.andThen_ok,invoke,e1,e2,callMethod,run_program,hq,b9w hm]
 simp
theorem b7u {u:Value} {as_:List Operand} {ats:Array TypeId} {t:TypeId} {name:String} {f:FuncId} {v:Value} {vs:List Value} (hm:a9O P t name=some f) (hc:FnV P f (v::vs).toArray I u) (hx:ev L x=some (.iface t v)) (hv:evs L as_=some vs) (hd:Nat.blt d n.sz=true)
  (k:SX n E I ((d,u)::L) H K):SX n E I L H (one P ops Q ⟨some d,.call { callee:=.invoke x name,args:=as_.toArray,argTypes:=ats },ty,pos,af,none⟩ K):=
 b5H (Hc:=[]) hc.go (fun a w s=>b9v s hm hx hv _ rfl) hd fun v I' H' hI hp=>by obtain⟨rfl,rfl,rfl⟩:=hp;exact k
theorem b4N {t:TypeId} {name:String} {f:FuncId} {v:Value} {cs:Array Value} (hm:a9O P t name=some f) (hx:ev L x=some (.func (.method name) #[.iface t v] cs)):OV P n E I L H ⟨some d,.nilCheck x,ty,pos,af,none⟩ (.func (.method name) #[.iface t v] cs):=
 (fun a w s _=>by
  have hd:∃q,P.types.size+Made.depth=q+1:=⟨P.types.size+99,rfl⟩;obtain⟨q,hq⟩:=hd
  simp only[execOp,s.ev hx,Sem.run_bind,run_program,Result.andThen_ok,List.getElem?_toArray,List.getElem?_cons_zero,hq,b4z hm,bne_self_eq_false,Bool.false_eq_true,if_false,Sem.run_pure])
theorem d1r {v:Value} {tt:Nat} (ht:b0n P tt=true) (hx:ev L x=some v):OV P n E I L H ⟨some d,.makeInterface tt x,ty,pos,af,none⟩ (.iface tt v):=
 (fun a w s _=>by
  unfold b0n at ht
  split at ht
  ·rename_i fs h1;simp[execOp,s.ev hx,Instr.makeInterface,run_underlying h1]
  ·cases ht)
theorem d1u {i:Int} (hx:ev L x=some (.int .i64 i)) (hb:I64 (-i)):OV P n E I L H ⟨some d,.unOp .neg tx x,ty,pos,af,none⟩ (.int .i64 (-i)):=
 (fun a w s _=>by
  have e:0-i = -i:=oM
  simp[execOp,s.ev hx,Op.unary,Op.intArith,e];exact IntWalk.i64_in _ ⟨hb.1,hb.2⟩)
theorem d6q {i j:Int} (hx:ev L x=some (.int .i64 i)) (hy:ev L y=some (.int .i64 j)) (hj:j≠0) (hb:I64 (i.tdiv j)):OV P n E I L H ⟨some d,.binOp .quo tx x y tyy,ty,pos,af,none⟩ (.int .i64 (i.tdiv j)):=
 (fun a w s _=>by
  simp only[execOp,s.ev hx,s.ev hy,eqGuard_at_int,binOp_quo,Op.intDiv,Sem.run_bind,if_neg hj]
  simp;exact IntWalk.i64_in _ ⟨hb.1,hb.2⟩)
theorem c3y {q:Nat} (hq:q<18446744073709551616) (hx:ev L x=some (.int .u64 ((q:Nat):Int))):OV P n E I L H ⟨some d,.binOp .and tx x (.const (.int .u64 4294967295)) tyy,ty,pos,af,none⟩ (.int .u64 ((q % 4294967296:Nat):Int)):=
 (fun a w s _=>by
  have h:=bits_and_u64_nat q 4294967295 hq oM;have e:q &&& 4294967295=q % 4294967296:=Nat.and_two_pow_sub_one_eq_mod q 32;rw[e]at h
  have hy:a.eval (.const (.int .u64 4294967295)) = .int .u64 4294967295:=rfl;have h2:Op.intBits .and .u64 (q:Int) 4294967295=pure (.int .u64 ((q % 4294967296:Nat):Int)):=by rw[←h];rfl
  simp only[execOp,s.ev hx,hy,eqGuard_at_int,binOp_and,h2,Sem.run_bind]
  rfl)
theorem c3v {q:Nat} {kk:IntKind} (hx:ev L x=some (.int .u64 ((q:Nat):Int))):OV P n E I L H ⟨some d,.binOp .shr tx x (.const (.int kk 32)) tyy,ty,pos,af,none⟩ (.int .u64 ((q / 4294967296:Nat):Int)):=
 (fun a w s _=>by
  have h:=shift_shr_any .u64 kk (q:Int) 32 oM;have hy:a.eval (.const (.int kk 32)) = .int kk 32:=rfl
  have e:(q:Int) / 2 ^ min (32:Int).toNat IntKind.u64.bits=((q / 4294967296:Nat):Int):=by
   rw[show min (32:Int).toNat IntKind.u64.bits=32 from rfl]
   show (q:Int) / 4294967296=_
   omega
  rw[e]at h
  have hb:binOp .shr tx (.int .u64 (q:Int)) (.int kk 32)=pure (.int .u64 ((q / 4294967296:Nat):Int)):=h
  simp[execOp,s.ev hx,hy,eqGuard_shr,hb])
theorem b8d {q r:Nat} (hx:ev L x=some (.int .u64 ((q:Nat):Int))) (hy:ev L y=some (.int .u64 ((r:Nat):Int))) (hb:q+r<18446744073709551616):OV P n E I L H ⟨some d,.binOp .add tx x y tyy,ty,pos,af,none⟩ (.int .u64 ((q+r:Nat):Int)):=
 (fun a w s _=>by
  have e:IntKind.u64.wrap ((q:Int)+(r:Int))=((q+r:Nat):Int):=by rw[IntKind.wrap_u64];omega
  simp[execOp,s.ev hx,s.ev hy,eqGuard_at_int,binOp_add,Op.intArith,e])
theorem b8g {q r:Nat} (hx:ev L x=some (.int .u64 ((q:Nat):Int))) (hy:ev L y=some (.int .u64 ((r:Nat):Int))) (hb:q * r<18446744073709551616):OV P n E I L H ⟨some d,.binOp .mul tx x y tyy,ty,pos,af,none⟩ (.int .u64 ((q * r:Nat):Int)):=
 (fun a w s _=>by
  have e0:(q:Int) * (r:Int)=((q * r:Nat):Int):=(Int.natCast_mul q r).symm;have e:IntKind.u64.wrap ((q:Int) * (r:Int))=((q * r:Nat):Int):=by rw[e0,IntKind.wrap_u64];omega
  simp[execOp,s.ev hx,s.ev hy,eqGuard_at_int,binOp_mul,Op.intArith,e])
theorem c3q {i j:Int} (hx:ev L x=some (.int .i64 i)) (hy:ev L y=some (.int .i64 j)):OV P n E I L H ⟨some d,.binOp .add tx x y tyy,ty,pos,af,none⟩ (.int .i64 (IntKind.i64.wrap (i+j))):=
 (fun a w s _=>by simp[execOp,s.ev hx,s.ev hy,eqGuard_at_int,binOp_add,Op.intArith])
theorem d4o {q r:Nat} (hx:ev L x=some (.int .u64 ((q:Nat):Int))) (hy:ev L y=some (.int .u64 ((r:Nat):Int))):OV P n E I L H ⟨some d,.binOp .mul tx x y tyy,ty,pos,af,none⟩ (.int .u64 ((q * r % 18446744073709551616:Nat):Int)):=
 (fun a w s _=>by
  have e0:(q:Int) * (r:Int)=((q * r:Nat):Int):=(Int.natCast_mul q r).symm;have e:IntKind.u64.wrap ((q:Int) * (r:Int))=((q * r % 18446744073709551616:Nat):Int):=by rw[e0,IntKind.wrap_u64];omega
  simp[execOp,s.ev hx,s.ev hy,eqGuard_at_int,binOp_mul,Op.intArith,e])
end
end Go.Sx
set_option linter.all false
namespace Go.Sx
open Go
def b5C (l:List Int):Nat→Int
 |0=>l[0]?.getD 0
 |i+1=>if l[i+1]?.getD 0<b5C l i then l[i+1]?.getD 0 else b5C l i
def b5B (l:List Int):Nat→Int
 |0=>l[0]?.getD 0
 |i+1=>if l[i+1]?.getD 0>b5B l i then l[i+1]?.getD 0 else b5B l i
section
variable {l:List Int} {i:Nat}
theorem c1I (h:0<l.length):b5C l 0=l[0]:=by simp[b5C,h]
theorem c1E (h:0<l.length):b5B l 0=l[0]:=by simp[b5B,h]
theorem c1H (h:i+1<l.length):(if l[i+1]<b5C l i then l[i+1] else b5C l i)=b5C l (i+1):=by simp[b5C,h]
theorem c1D (h:i+1<l.length):(if l[i+1]>b5B l i then l[i+1] else b5B l i)=b5B l (i+1):=by simp[b5B,h]
end
theorem d3a (a b:Int):(if b<a then b else a)=min a b:=oM
theorem d2X (a b:Int):(if b>a then b else a)=max a b:=oM
theorem d2Z (a b c d:Int):b5C [a,b,c,d] 3=min (min (min a b) c) d:=by
 show (if d<(if c<(if b<a then b else a) then c else (if b<a then b else a)) then d else (if c<(if b<a then b else a) then c else (if b<a then b else a)))=_
 simp only[d3a]
theorem d2W (a b c d:Int):b5B [a,b,c,d] 3=max (max (max a b) c) d:=by
 show (if d>(if c>(if b>a then b else a) then c else (if b>a then b else a)) then d else (if c>(if b>a then b else a) then c else (if b>a then b else a)))=_
 simp only[d2X]
theorem c8s {f:Int→Int→Int} {a b:Ivl} (h:(!a2l a || !a2l b)=true):b0B f a b=a8V:=if_pos h
theorem c4d {f:Int→Int→Int} {a b:Ivl} (h:(!a2l a || !a2l b)=false):b0B f a b=⟨b5C [f a.low b.low,f a.low b.high,f a.high b.low,f a.high b.high] 3,b5B [f a.low b.low,f a.low b.high,f a.high b.low,f a.high b.high] 3⟩:=by
 unfold b0B;rw[if_neg (by rw[h];decide),d2Z,d2W]
theorem c8r {a b:Ivl} (h:(!a2l a || !a2l b)=false):((-(1000000000000:Int)≤a.low∧a.low≤(1000000000000:Int))∧(-(1000000000000:Int)≤a.high∧a.high≤(1000000000000:Int)))∧((-(1000000000000:Int)≤b.low∧b.low≤(1000000000000:Int))∧(-(1000000000000:Int)≤b.high∧b.high≤(1000000000000:Int))):=by
 simp only[Bool.or_eq_false_iff,Bool.not_eq_false']at h
 have h1:=a0R.1 h.1;have h2:=a0R.1 h.2
 omega
theorem c9z {a b:Ivl} (h:(!a2l a || !a2l b)=true):a4v a b=a8V:=if_pos h
theorem c5f {a b:Ivl} (h:(!a2l a || !a2l b)=false):a4v a b=⟨b5C [a.low,a.high,b.low,b.high] 3,b5B [a.low,a.high,b.low,b.high] 3⟩:=by
 have hn:¬(!a2l a || !a2l b)=true:=by rw[h];decide
 simp only[Bool.or_eq_false_iff,Bool.not_eq_false']at h
 have h1:=a0R.1 h.1;have h2:=a0R.1 h.2;unfold a4v;rw[if_neg hn,d2Z,d2W]
 congr 1<;>omega
theorem d0Q {a b:Int} (h:(!(decide (a<0) == decide (b<0)))=true) : -(min ((a.natAbs * b.natAbs:Nat):Int) (1000000000000:Int))=b1F (a * b):=by
 have e:(((a.natAbs * b.natAbs:Nat)):Int)=((a * b).natAbs:Int):=by rw[Int.natAbs_mul]
 rw[e];unfold b1F
 by_cases ha:a<0<;>by_cases hb:b<0
 ·simp[ha,hb]at h
 ·have:a * b≤0:=Int.mul_nonpos_of_nonpos_of_nonneg oM oM
  omega
 ·have:a * b≤0:=Int.mul_nonpos_of_nonneg_of_nonpos oM oM
  omega
 ·simp[ha,hb]at h
theorem d0R {a b:Int} (h:(!(decide (a<0) == decide (b<0)))=false):(min ((a.natAbs * b.natAbs:Nat):Int) (1000000000000:Int))=b1F (a * b):=by
 have e:(((a.natAbs * b.natAbs:Nat)):Int)=((a * b).natAbs:Int):=by rw[Int.natAbs_mul]
 rw[e];unfold b1F
 by_cases ha:a<0<;>by_cases hb:b<0
 ·have:=Int.mul_nonneg_of_nonpos_of_nonpos (a:=a) (b:=b) oM oM
  omega
 ·simp[ha,hb]at h
 ·simp[ha,hb]at h
 ·have:=Int.mul_nonneg (a:=a) (b:=b) oM oM
  omega
theorem d1i {a b:Int}:(a.tdiv b).natAbs≤a.natAbs∧(a.tdiv b * b).natAbs≤a.natAbs:=by
 have h1:(a.tdiv b).natAbs≤a.natAbs:=by rw[Int.natAbs_tdiv];exact Nat.div_le_self _ _
 refine⟨h1,?_⟩;rw[Int.natAbs_mul,Int.natAbs_tdiv];exact Nat.div_mul_le_self _ _
def a9B (a b:Int):Bool:=!decide (a.tdiv b * b=a) && !(decide (a<0) == decide (b<0))
theorem c9k {a b:Int} (h:b=0):a3J a b=0:=if_pos h
theorem c9j {a b:Int} (h:¬b=0) (h2:a9B a b=true):a.tdiv b-1=a3J a b:=by
 unfold a3J
 simp only[a9B,Bool.and_eq_true,Bool.not_eq_true',decide_eq_false_iff_not]at h2
 rw[if_neg h,if_pos ⟨h2.1,by cases h1:decide (a<0)<;>cases h3:decide (b<0)<;>simp_all⟩]
theorem c9i {a b:Int} (h:¬b=0) (h2:a9B a b=false):a.tdiv b=a3J a b:=by
 unfold a3J;rw[if_neg h,if_neg];rintro⟨h3,h4⟩
 simp only[a9B]at h2
 cases h1:decide (a<0)<;>cases h5:decide (b<0)<;>simp_all
section
variable {f:Fm} {n m:Int} {i:Nat}
theorem c0u:∀{ks:List Fm} {k:Fm},k∈ks→cntN k≤cntNL ks
 | [],k,h=>by cases h
 |x::ks,k,h=>by
  simp only[cntNL]
  rcases List.mem_cons.1 h with rfl|h
  ·omega
  ·have:=c0u h;omega
theorem a4H {k:Fm} (h:k∈f.kids):cntN k<cntN f:=by
 obtain⟨op,n,kids⟩:=f;have:=c0u (show k∈kids from h)
 simp only[cntN];omega
theorem a9U:nodesL (f.kids.drop 0) 1 m=nodesF f m:=by cases f;rfl
theorem b1u (hi:i<f.kids.length) (h:nodesL (f.kids.drop i) n m=nodesF f m) (hn:¬n>m):nodesL (f.kids.drop (i+1)) (n+nodesF f.kids[i] (m-n)) m=nodesF f m:=by
 rw[List.drop_eq_getElem_cons hi]at h
 rw[←h];simp only[nodesL,if_neg hn]
theorem b1v (hi:i<f.kids.length) (h:nodesL (f.kids.drop i) n m=nodesF f m) (hn:n>m):n=nodesF f m:=by
 rw[List.drop_eq_getElem_cons hi]at h
 rw[←h];simp only[nodesL,if_pos hn]
theorem b3Y (hi:¬i<f.kids.length) (h:nodesL (f.kids.drop i) n m=nodesF f m):n=nodesF f m:=by
 rw[List.drop_eq_nil_of_le oM]at h
 rw[←h];rfl
def b3h (f:Fm):Bool:=decide (f.op<1)||decide (f.op>11)
def b0z (f:Fm):Bool:=((!decide ((f.kids.length:Int)=a8i f.op)||decide (f.n<0))||decide (f.n>9999999))||(decide (f.n>0) && !decide (f.op=1))
theorem a8P:rightF f=(!b3h f&&(!b0z f&&a3A (fun _ k=>rightF k) f.kids f.kids.length)):=by
 have hl:∀ks:List Fm,rightL ks=ks.all rightF:=fun ks=>by
  induction ks with
  |nil=>rfl
  |cons x ks ih=>simp only[rightL,List.all_cons,ih]
 have ha:∀ks:List Fm,a3A (fun _ k=>rightF k) ks ks.length=ks.all rightF:=fun ks=>by
  rw[Bool.eq_iff_iff]
  constructor
  ·intro h;rw[List.all_eq_true];intro x hx;obtain⟨pre,h1⟩:=a3Y h hx;exact h1
  ·intro h;rw[List.all_eq_true]at h
   unfold a3A;rw[List.all_eq_true];intro i hi
   cases hq:ks[i]? with
   |none=>rfl
   |some x=>exact h x (List.mem_of_getElem? hq)
 obtain⟨op,n,kids⟩:=f;rw[ha]
 simp only[rightF,hl,b3h,b0z,Fm.op,Fm.n,Fm.kids,ne_eq,decide_not,Bool.and_assoc]
 rfl
theorem c2A (h1:b3h f=false) (h2:b0z f=false) (h3:a3A (fun _ k=>rightF k) f.kids f.kids.length=true):rightF f=true:=by rw[a8P,h1,h2,h3];rfl
theorem c6p (h1:b3h f=true):rightF f=false:=by rw[a8P,h1];rfl
theorem c6q (h1:b0z f=true):rightF f=false:=by rw[a8P,h1];simp
theorem c2B (h1:i<f.kids.length) (h:rightF f.kids[i]=false):rightF f=false:=by rw[a8P,a1b (f:=fun _ k=>rightF k) h1 h];simp
theorem a7s (h:rightF f=true):(1≤f.op∧f.op≤11)∧(f.kids.length:Int)=a8i f.op∧(0≤f.n∧f.n≤9999999)∧∀k∈f.kids,rightF k=true:=by
 cases f;exact a7r h
theorem a4o (h:rightF f=true) (i:Nat) (hi:i<f.kids.length):rightF f.kids[i]=true:=(a7s h).2.2.2 _ (List.getElem_mem hi)
theorem d6z {l:List Fm} (h:l.length=0):l=[]:=List.eq_nil_of_length_eq_zero h
theorem c6I (h:rightF f=true) (h1:f.op=1) (u:Use):a2B u f=⟨f.n,f.n⟩:=by
 have h2:=(a7s h).2.1;obtain⟨op,n,kids⟩:=f;obtain rfl:op=1:=h1;obtain rfl:kids=[]:=d6z (by simpa[a8i,Fm.op,Fm.kids]using h2)
 simp[a2B,Fm.n]
theorem b6n (h:rightF f=true) (h1:¬f.op=1) (h4:f.op≤4) (u:Use):a2B u f=a6E u f.op:=by
 have h2:=(a7s h).2.1;obtain⟨op,n,kids⟩:=f;have g1:¬op=1:=h1;have g4:op≤4:=h4
 obtain rfl:kids=[]:=d6z (by
  have:(kids.length:Int)=a8i op:=h2;unfold a8i at this
  rw[if_neg oM,if_neg oM]at this
  omega)
 show (if op=1 then _ else _)=_
 rw[if_neg g1];rfl
theorem d5K (h:rightF f=true) (h1:f.op=11):f.kids.length=3:=by
 have h2:=(a7s h).2.1;rw[h1]at h2
 have e:a8i 11=3:=by decide
 rw[e]at h2;omega
theorem d5J (h:rightF f=true) (h1:¬f.op=11) (h4:¬f.op≤4):f.kids.length=2:=by
 have h2:=(a7s h).2.1;unfold a8i at h2
 rw[if_neg h1,if_pos oM]at h2
 omega
theorem d0Z (h3:f.kids.length=3) (u:Use):a2B u f=a6A (a2B u f.kids[0]) (a2B u f.kids[1]) (a2B u f.kids[2]):=by
 obtain⟨op,n,kids⟩:=f;have h3:kids.length=3:=h3
 match kids,h3 with
 | [a,b,c],_=>simp only[a2B,Fm.kids];rfl
theorem c6J (h3:f.kids.length=2) (u:Use):a2B u f=a5y f.op (a2B u f.kids[0]) (a2B u f.kids[1]):=by
 obtain⟨op,n,kids⟩:=f;have h3:kids.length=2:=h3
 match kids,h3 with
 | [a,b],_=>simp only[a2B,Fm.kids];rfl
end
theorem a3O {I:IMap} {s:Value} {k:Fm} (h:RdS I s k.kids):FmRd I [ci k.op,ci k.n,s] k:=by cases k;exact fm_in _ _ h
def c3N (l:List Ivl):List Value:=l.flatMap Ivl.cells
theorem b3P {I:IMap} (l:List Ivl):Flat I (c3N l) l:=by
 induction l with
 |nil=>exact .nil
 |cons x l ih=>exact .cons rfl ih
theorem c5a (l m:List Ivl):c3N (l++m)=c3N l++c3N m:=List.flatMap_append
theorem c5b (x:Ivl):c3N [x]=x.cells:=by simp[c3N]
theorem RdS.rda {α:Type} [Enc α] {I:IMap} {A:Option Addr} {m c:Nat} {l:List α} (h:RdS I (.slice A m c) l):RdA I A l:=by
 obtain⟨_,_,e,h,_⟩:=h;cases e;exact h
theorem b1G (a:Ivl) (x y:Int):(a2A a x y).length≤2:=by unfold a2A;split<;>simp
theorem d2n {a b:Ivl} (h:0<(a4c a b).length):d1C a b=(a4c a b).foldl a4v (a4c a b)[0]:=by
 have hd:∀(l:List Ivl) (h:0<l.length),l.headD a8V=l[0]:=fun l h=>by cases l with|nil=>simp at h|cons x l=>rfl
 unfold d1C;rw[hd _ h]
theorem d4j {u:Use} {i:Nat} (h:i<3) (hb:a8f ([u.km,u.cycles,u.load][i])=false):a8g u=false:=by
 have h3:i=0∨i=1∨i=2:=oM
 rcases h3 with rfl|rfl|rfl<;>(simp at hb;simp[a8g,hb])
theorem d1o {u:Use} (h:a3A (fun _ q=>a8f q) [u.km,u.cycles,u.load] 3=true):a8g u=true:=by
 unfold a3A at h
 rw[List.all_eq_true]at h
 have h0:=h 0 (by simp);have h1:=h 1 (by simp);have h2:=h 2 (by simp)
 simp at h0 h1 h2
 simp[a8g,h0,h1,h2]
theorem d2l {f:Fm} {u:Use} (h:a8g u=false):b1Y f u=a8V:=by unfold b1Y;rw[if_pos h]
theorem c8N {f:Fm} {u:Use} (h:a8g u=true) (hv:a2C f=false):b1Y f u=a8V:=by unfold b1Y;rw[if_neg (by rw[h];decide),if_pos hv]
theorem c8O {f:Fm} {u:Use} (h:a8g u=true) (hv:a2C f=true):b1Y f u=⟨max 0 (a2B u f).low,max 0 (a2B u f).high⟩:=by unfold b1Y;rw[if_neg (by rw[h];decide),if_neg (by rw[hv];decide)]
theorem b8D {l:List Ivl} {z:Ivl} {i:Nat} (h:i<l.length):(l.take (i+1)).foldl a4v z=a4v ((l.take i).foldl a4v z) l[i]:=by
 rw[←a0c h,List.foldl_append];rfl
section
variable {P:Program} {ρ:Option Nat} {n:Sz} {E:Ent} {I I':IMap} {L:LL} {H H0:List Res} {Q:Exit→Act→World→Prop} {ops:Array Oper} {K:Act→World→Prop}
variable {d ty:Nat} {pos:String} {af:Array Edge} {fo:Operand} {as_:List Operand} {ats:Array TypeId} {f:FuncId} {args:List Value} {r1 r2 r3:Res}
theorem b7t {post:Value→IMap→List Res→Prop} (hc:FnH P f args.toArray I [r1,r2,r3] post) (h:a1B L fo as_=some (f,args)) (hd:Nat.blt d n.sz=true)
  (k:∀v I' H',ILe I I'→post v I' H'→SX n E I' ((d,v)::L) (H'++H0) K) :
  SX n E I L (r1::r2::r3::H0) (one P ops Q ⟨some d,.call { callee:=.value fo,args:=as_.toArray,argTypes:=ats },ty,pos,af,none⟩ K):=a2Z (Hc:=[r1,r2,r3]) hc h hd k
theorem b7X {a b c:Res} (h:SX n E I L (a::b::c::H) K):SX n E I L ([a,b,c]++H) K:=h
end
end Go.Sx
set_option linter.all false
namespace Go.Sx
open Go
section
variable {c:List Kind} {f:Fm} {st:List Part} {l L:List Evt} {p q:Part} {e:Evt} {d:Ivl} {day:Int} {i:Nat} {k:Int}
def a6R (st:List Part):Nat:=st.length+b1j st
theorem b1k (st:List Part):b1j st=st.countP fun p=>!decide (p.into=a0O):=by unfold b1j;rw[List.countP_eq_length_filter]
theorem b6Q (st:List Part) (i:Nat) (p:Part):b1j (st.set i p)≤b1j st+1:=by
 rw[b1k,b1k]
 rcases Nat.lt_or_ge i st.length with h|h
 ·rw[List.set_eq_take_append_cons_drop,if_pos h];have h2:st.countP (fun p=>!decide (p.into=a0O))=(st.take i).countP (fun p=>!decide (p.into=a0O))+(st.drop i).countP (fun p=>!decide (p.into=a0O)):=by rw[←List.countP_append,List.take_append_drop]
  have h3:(st.drop (i+1)).countP (fun p=>!decide (p.into=a0O))≤(st.drop i).countP (fun p=>!decide (p.into=a0O)):=by
   rw[List.drop_eq_getElem_cons h,List.countP_cons];omega
  rw[List.countP_append,List.countP_cons]
  split<;>omega
 ·rw[List.set_eq_of_length_le h];omega
theorem c8G (hi:Inc Part.name st) (h:(a0f st q.name).isSome=true):a6R (a4P Part.name st q)≤a6R st+1:=by
 have ha:atF Part.name st q.name=true:=by rw[a9h hi];exact h
 unfold a6R a4P;rw[if_pos ha,List.length_set];have:=b6Q st (a6c Part.name st q.name) q
 omega
theorem c8F (hq:q.into=a0O):a6R (a4P Part.name st q)≤a6R st+1:=by
 unfold a4P
 split
 ·unfold a6R;rw[List.length_set];have:=b6Q st (a6c Part.name st q.name) q
  omega
 ·unfold a6R;rw[b1k,b1k,List.countP_append,List.countP_cons,List.length_append,List.length_cons];have h2:st.countP (fun p=>!decide (p.into=a0O))=(st.take (a6c Part.name st q.name)).countP (fun p=>!decide (p.into=a0O))+(st.drop (a6c Part.name st q.name)).countP (fun p=>!decide (p.into=a0O)):=by rw[←List.countP_append,List.take_append_drop]
  have h3:(st.take (a6c Part.name st q.name)).length+(st.drop (a6c Part.name st q.name)).length=st.length:=by rw[←List.length_append,List.take_append_drop]
  simp only[hq,decide_true,Bool.not_true,Bool.false_eq_true,if_false]
  omega
theorem b3q (h:(a0g c st e).2=0):a6R (a0g c st e).1≤a6R st+1:=by
 have hi:=(b3f h).1;have hf:∀n,a6R (a5B n).1≤a6R st+1:=fun n=>by show a6R []≤_;unfold a6R b1j;simp
 unfold a0g at h ⊢
 split
 ·exact hf _
 ·split
  ·unfold a3B
   split
   ·exact hf _
   split
   ·exact hf _
   split
   ·exact hf _
   ·exact c8F rfl
  ·unfold a0F
   split
   ·exact hf _
   rename_i h2
   split
   ·exact hf _
   have hs:(a0f st e.part).isSome=true:=(a9k h2).1;obtain⟨p0,hp0⟩:=Option.isSome_iff_exists.1 hs;have hP:a2U st e=p0:=by unfold a2U;rw[hp0];rfl
   have hn:p0.name=e.part:=by simpa using List.find?_some hp0
   have hput:∀q:Part,q.name=p0.name→a6R (b9k st q).1≤a6R st+1:=fun q hq=>c8G hi (by rw[hq,hn];exact hs)
   rw[hP];unfold a1M a1p a0D a1k a0Y a0M
   repeat' split
   all_goals first
    |exact hf _
    |exact hput _ rfl
theorem c0v:a6R (useL st e d)=a6R st:=by
 unfold a6R useL;rw[b1k,b1k,List.length_map,List.countP_map]
 congr 1
 refine List.countP_congr fun p _=>?_
 simp only[Function.comp]
 split<;>rfl
theorem d4k (h:SmF st):SmF (useL st e d):=fun p hp=>by
 unfold useL at hp
 obtain⟨q,hq,rfl⟩:=List.mem_map.1 hp;have:=h q hq
 split<;>exact this
theorem b7N (h:(!a2p c || !a2C f)=true):runL f c l day=([],-1,1):=if_pos h
theorem d0L (h:(!a2p c || !a2C f)=false):runL f c l day=runLGo f c [] 0 ((a1Z (l.filter fun e=>!decide (e.day>day))).drop 0):=by
 unfold runL;rw[if_neg (by rw[h];decide)];rfl
theorem c4T (hi:i<L.length) (h:¬(a0g c st L[i]).2=0):runLGo f c st k (L.drop i)=([],k,(a0g c st L[i]).2):=by
 rw[List.drop_eq_getElem_cons hi,runLGo,if_neg (by rw[a3h];exact h),a3h]
theorem c1j (hi:i<L.length) (h:(a0g c st L[i]).2=0) (h4:¬L[i].op=4):runLGo f c st k (L.drop i)=runLGo f c (a0g c st L[i]).1 (k+1) (L.drop (i+1)):=by
 rw[List.drop_eq_getElem_cons hi,runLGo,if_pos (by rw[a3h];exact h)];unfold applyL;rw[if_neg (fun hc=>h4 hc.2)]
theorem c9p (hi:i<L.length) (h:(a0g c st L[i]).2=0) (h4:L[i].op=4):runLGo f c st k (L.drop i)=runLGo f c (useL (a0g c st L[i]).1 L[i] (b1Y f L[i].use)) (k+1) (L.drop (i+1)):=by
 rw[List.drop_eq_getElem_cons hi,runLGo,if_pos (by rw[a3h];exact h)];unfold applyL;rw[if_pos ⟨h,h4⟩]
theorem c9o (hi:¬i<L.length):runLGo f c st k (L.drop i)=(st,-1,0):=by rw[List.drop_eq_nil_of_le oM];rfl
noncomputable def useUp (st:List Part) (e:Evt) (d:Ivl) (i:Nat):List Part:=(useL st e d).take i++st.drop i
theorem use_len:(useL st e d).length=st.length:=by unfold useL;exact List.length_map ..
theorem b4L (i:Nat):(useUp st e d i).length=st.length:=by
 unfold useUp;rw[List.length_append,List.length_take,List.length_drop,use_len];omega
theorem b9C:useUp st e d 0=st:=by simp[useUp]
theorem c3n:useUp st e d st.length=useL st e d:=by
 unfold useUp;rw[List.drop_length,List.append_nil,←use_len (e:=e) (d:=d),List.take_length]
theorem b8b {i:Nat} (hi:i<st.length):(useUp st e d i)[i]? = some st[i]:=by
 unfold useUp;rw[List.getElem?_append_right (by rw[List.length_take,use_len];omega),List.length_take,use_len,Nat.min_eq_left oM,Nat.sub_self,List.getElem?_drop,Nat.add_zero];exact List.getElem?_eq_getElem hi
theorem b1N {i:Nat} (hi:i<st.length):useUp st e d (i+1)=(useUp st e d i).set i ((useL st e d)[i]'(by rw[use_len];exact hi)):=by
 unfold useUp;have hl:((useL st e d).take i).length=i:=by rw[List.length_take,use_len];omega
 rw[List.set_append_right _ _ oM,hl,Nat.sub_self,List.drop_eq_getElem_cons hi,List.set_cons_zero,←a0c (by rw[use_len];exact hi),List.append_assoc]
 rfl
theorem c6X {i:Nat} (hi:i<st.length) {ns:List ByteArray} (hn:∀n,n∈ns↔a8W st e.part n) (h:st[i].name∈ns++[e.part]):(useL st e d)[i]'(by rw[use_len];exact hi)=a8Y d e.use st[i]:=by
 simp only[useL,List.getElem_map]
 rw[if_pos]
 rcases List.mem_append.1 h with h|h
 ·exact .inr ((hn _).1 h)
 ·exact .inl (List.mem_singleton.1 h)
theorem d1m {i:Nat} (hi:i<st.length) {ns:List ByteArray} (hn:∀n,n∈ns↔a8W st e.part n) (h:¬st[i].name∈ns++[e.part]):(useL st e d)[i]'(by rw[use_len];exact hi)=st[i]:=by
 simp only[useL,List.getElem_map]
 rw[if_neg];rintro (h1|h1)
 ·exact h (List.mem_append.2 (.inr (List.mem_singleton.2 h1)))
 ·exact h (List.mem_append.2 (.inl ((hn _).2 h1)))
theorem c6V {i:Nat} (hi:i<st.length) {ns:List ByteArray} (hn:∀n,n∈ns↔a8W st e.part n) (h:¬st[i].name∈ns++[e.part]):useUp st e d (i+1)=useUp st e d i:=by
 rw[b1N hi,d1m hi hn h];have h1:=b8b (e:=e) (d:=d) hi;have hl:i<(useUp st e d i).length:=by rw[b4L];exact hi
 rw[List.getElem?_eq_getElem hl]at h1
 rw[←Option.some.inj h1];exact List.set_getElem_self hl
theorem d0M (h:(a0g c st e).2=0) (h4:e.op=4):0<st.length:=by
 have h0:=h;unfold a0g at h
 split at h
 ·cases h
 ·rw[if_neg oM]at h
  unfold a0F at h
  split at h
  ·cases h
  ·rename_i h2
   exact List.length_pos_of_mem (b0b (a9k h2).1)
end
theorem c0N {todo:List NU} {a b:List (ByteArray×Value)} {p:ByteArray×Value} (h:a2T todo=a++p::b):∃n u a' b',todo=a'++(n,u)::b'∧a2T a'=a∧a2T b'=b∧p=(n,.string u):=by
 unfold a2T at h
 obtain⟨a',c',rfl,h2,h3⟩:=List.map_eq_append_iff.1 h;obtain⟨⟨n,u⟩,b',rfl,h4,h5⟩:=List.map_eq_cons_iff.1 h3;exact⟨n,u,a',b',rfl,h2,h5,h4.symm⟩
theorem ItS.Step.nu {R todo:List NU} {t':List (ByteArray×Value)} {S S':ItS} {q:Option (ByteArray×Value)} (h:ItS.Step Value.string (a2T R) (a2T todo) S q S' t') (hq:q.isSome=true) :
  ∃(n u:ByteArray) (a b:List NU),todo=a++(n,u)::b∧S'.Ok Value.string (a2T R)∧S'.Todo Value.string (a2T (a++b))∧S'.At Value.string (n,.string u)∧q = .some (n,.string u):=by
 obtain⟨p,a,b,h1,h2,h3,h4,h5,_⟩:=h.some hq;obtain⟨n,u,a',b',e1,e2,e3,e4⟩:=c0N h1;subst e4;exact⟨n,u,a',b',e1,h2,by rw[show a2T (a'++b')=a2T a'++a2T b' from List.map_append,e2,e3];exact h3,h4,h5⟩
theorem ItS.Step.nuNone {R todo:List NU} {t':List (ByteArray×Value)} {S S':ItS} {q:Option (ByteArray×Value)} (h:ItS.Step Value.string (a2T R) (a2T todo) S q S' t') (hq:q.isSome=false):todo=[]∧q = .none∧S'=S:=by
 obtain⟨h1,h2,h3⟩:=h.none hq;exact⟨by cases todo with|nil=>rfl|cons p t=>simp[a2T]at h1,h2,h3⟩
theorem c5N {done todo a b kvs:List (ByteArray×Value)} {p:ByteArray×Value} (hP:(done++todo).Perm kvs) (h:todo=a++p::b) (hn:(kvs.map Prod.fst).Nodup):p.1∉done.map Prod.fst:=fun hm=>by
 have h1:=((hP.map Prod.fst).nodup_iff).2 hn;rw[List.map_append]at h1
 refine (List.nodup_append.1 h1).2.2 _ hm p.1 (List.mem_map_of_mem (by rw[h];simp)) rfl
theorem c4I {l:List Part} {ks:List ByteArray} {n:ByteArray} (h:n∉ks):n∉(a3Z l ks).map Prod.fst:=fun hm=>by
 rw[b2e]at hm;exact h (List.mem_filter.1 hm).1
theorem c1b {l:List Part} {done:List (ByteArray×Value)} {p:ByteArray×Value} (h:upP l p.1≠a0O):a3Z l ((done++[p]).map Prod.fst)=a3Z l (done.map Prod.fst)++[(p.1,upP l p.1)]:=by
 rw[List.map_append];exact c4J h
theorem c1a {l:List Part} {done:List (ByteArray×Value)} {p:ByteArray×Value} (h:upP l p.1=a0O):a3Z l ((done++[p]).map Prod.fst)=a3Z l (done.map Prod.fst):=by
 rw[List.map_append];exact c9d h
theorem c9c {l:List Part} {done kvs:List (ByteArray×Value)} (hn:(kvs.map Prod.fst).Nodup) (hd:done.Perm kvs):((a3Z l (done.map Prod.fst)).map Prod.fst).Nodup:=by
 rw[b2e];exact List.filter_sublist.nodup (((hd.map _).nodup_iff).2 hn)
theorem c4P {I:IMap} {ys:List Value} {m:List ByteArray} (h:Flat I ys m):ys=(a1q m).flatten:=by
 obtain⟨xss,rfl,hC⟩:=FlatC.of h;obtain rfl:=b7V hC
 rfl
theorem a0e {xss:List (List Value)} {i:Nat} {c c':List Value} (h:xss[i]? = some c):(xss.set i c')[i]? = some c':=by
 have hi:i<xss.length:=(List.getElem?_eq_some_iff.1 h).1;rw[List.getElem?_set_self hi]
theorem c4f {I:IMap} {xss:List (List Value)} {l:List Part} {k:Nat} {p:Part} (hx:FlatC I xss l) (hk:l[k]? = some p) (rest:List (List Value)):∃q,(xss++rest)[k]? = some (p.cells q)∧RdS I q p.props:=by
 have hkl:k<l.length:=(List.getElem?_eq_some_iff.1 hk).1;obtain⟨c,h1,h2⟩:=hx.at_ hkl;rw[List.getElem?_eq_getElem hkl]at hk
 rw[Option.some.inj hk]at h2
 obtain⟨q,rfl,hq⟩:=h2;exact⟨q,by rw[List.getElem?_append_left (List.getElem?_eq_some_iff.1 h1).1];exact h1,hq⟩
section
variable {P:Program} {ρ:Option Nat} {n:Sz} {E:Ent} {I:IMap} {L:LL} {H:List Res} {Q:Exit→Act→World→Prop} {ops:Array Oper} {K:Act→World→Prop}
variable {d ty:Nat} {pos:String} {af:Array Edge} {x y:Operand} {xss:List (List Value)} {c:List Value} {g off tt t' k kk:Nat}
theorem c0o (hU:Uk k xss) {i j:Nat} (hi:xss[i]? = some c) {vs:List Value} (hv:(c.drop j).take kk=vs) (hk:vs.length=kk) (hk0:0<kk):(xss.flatten.drop (i * k+j)).take kk=vs:=by
 have h1:=b5t hU hi;have hc:c.length=k:=hU c (List.mem_of_getElem? hi)
 have hjk:j+kk≤k:=by
  have:=congrArg List.length hv;rw[List.length_take,List.length_drop]at this
  omega
 rw[←hv,←h1,List.drop_take,List.take_take,List.drop_drop,Nat.min_eq_left oM]
theorem a1Y (vs:List Value) (hm:Res.blk g t' xss.flatten∈H) (hU:Uk k xss) (ht:tyK P tt=some (true,kk)) (hx:ev L x=some (.pointer (some ⟨g,off,none⟩))) (i j:Nat) (ho:off=i * k+j) (hi:xss[i]? = some c) (hv:(c.drop j).take kk=vs) (hk:vs.length=kk) (hk0:Nat.blt 0 kk=true) :
  OV P n E I L H ⟨some d,.load tt x,ty,pos,af,none⟩ (.agg vs.toArray):=a1L vs hm ht hx (by subst ho;exact c0o hU hi hv hk (by simpa[Nat.blt_eq]using hk0)) hk
theorem d4m {v:Value} (hm:Res.blk g t' xss.flatten∈H) (hU:Uk k xss) (ht:tyK P tt=some (false,1)) (hx:ev L x=some (.pointer (some ⟨g,off,none⟩))) (i j:Nat) (ho:off=i * k+j) (hi:xss[i]? = some c) (hv:c[j]? = some v) :
  OV P n E I L H ⟨some d,.load tt x,ty,pos,af,none⟩ v:=b2S hm ht hx (by
   subst ho;have hj:j<c.length:=(List.getElem?_eq_some_iff.1 hv).1
   have h1:=c0o (kk:=1) hU hi (j:=j) (vs:=[v]) (by
    rw[List.drop_eq_getElem_cons hj];rw[List.getElem?_eq_getElem hj]at hv
    cases hv;rfl) rfl oM
   have h2:=congrArg (·[0]?) h1
   simpa[List.getElem?_take,List.getElem?_drop]using h2)
theorem a0P {b:Bool} {v:Value} (vs c':List Value) (hU:Uk k xss) (ht:tyK P tt=some (b,kk)) (hx:ev L x=some (.pointer (some ⟨g,off,none⟩))) (hy:ev L y=some v) (hv:v.cells=vs.toArray) (hk:vs.length=kk) (h1:vs.all (·.oneCell')=true) (i j:Nat) (ho:off=i * k+j) (hi:xss[i]? = some c) (hjk:j+kk≤k) (hc:c.take j++(vs++c.drop (j+kk))=c')
  (kk':SX n E I L (.blk g t' (xss.set i c').flatten::H) K):SX n E I L (.blk g t' xss.flatten::H) (one P ops Q ⟨none,.store tt x y,ty,pos,af,none⟩ K):=by
 subst ho;have hil:i<xss.length:=(List.getElem?_eq_some_iff.1 hi).1;have hcl:c.length=k:=hU c (List.mem_of_getElem? hi)
 have hc'l:c'.length=k:=by
  rw[←hc,List.length_append,List.length_append,List.length_take,List.length_drop,hk];omega
 have hspl:xss=xss.take i++c::xss.drop (i+1):=by
  have h2:xss[i]=c:=by rw[List.getElem?_eq_getElem hil]at hi;exact Option.some.inj hi
  rw[←h2,←List.drop_eq_getElem_cons hil,List.take_append_drop]
 have hfl:xss.flatten=(xss.take i).flatten++(c++(xss.drop (i+1)).flatten):=by
  conv=>lhs;rw[hspl]
  simp
 have hpl:(xss.take i).flatten.length=i * k:=by rw[a2E (hU.take i),List.length_take,Nat.min_eq_left oM]
 refine d6c vs _ ht hx hy hv hk ?_ h1 ?_ kk'
 ·apply Nat.ble_eq_true_of_le
  rw[a2E hU];have:(i+1) * k≤xss.length * k:=Nat.mul_le_mul_right _ hil;rw[Nat.add_mul]at this
  omega
 ·rw[List.set_eq_take_append_cons_drop,if_pos hil,hfl];rw[List.flatten_append,List.flatten_cons]
  have e1:((xss.take i).flatten++(c++(xss.drop (i+1)).flatten)).take (i * k+j)=(xss.take i).flatten++c.take j:=by
   rw[←hpl,List.take_length_add_append,List.take_append_of_le_length oM]
  have e2:((xss.take i).flatten++(c++(xss.drop (i+1)).flatten)).drop (i * k+j+kk)=c.drop (j+kk)++(xss.drop (i+1)).flatten:=by
   rw[←hpl,Nat.add_assoc,List.drop_length_add_append,List.drop_append_of_le_length oM]
  rw[e1,e2,←hc]
  simp
end
end Go.Sx
set_option linter.all false
namespace Go.Sx
open Go
def sKm:ByteArray:=⟨#[107,109]⟩
def a2N:ByteArray:=⟨#[99,121,99,108,101,115]⟩
def a3c:ByteArray:=⟨#[100,97,109,97,103,101]⟩
def a8b:ByteArray:=⟨#[100,97,121,115]⟩
def c2K:ByteArray:=⟨#[97,103,101]⟩
def c7w:List ByteArray:=[sKm,a2N,a3c,a8b,c2K]
def a9G (s:ByteArray):Bool:=decide (s∈c7w)
def b0m (day a:Int):Ivl:=if a≥day then a8V else ⟨day-max a (day-(1000000000000:Int)),day-max a (day-(1000000000000:Int))⟩
def c7v (p:Part) (s:ByteArray) (day:Int):Ivl:=if s=sKm then p.life.km else if s=a2N then p.life.cycles else if s=a3c then p.life.damage else if s=a8b then b0m day p.since else b0m day p.made
def a3X (p:Part) (s:ByteArray) (day:Int):Ivl×Int:=if a9G s=false then (a8V,15) else if (decide (day<0)||decide (day>40000))=true then (a8V,13) else (c7v p s day,0)
section
variable {p:Part} {s:ByteArray} {day:Int}
theorem c7d (h:a9G s=false):a3X p s day=(a8V,15):=if_pos h
theorem c3B (h:a9G s=true) (hd:(decide (day<0)||decide (day>40000))=true):a3X p s day=(a8V,13):=by unfold a3X;rw[if_neg (by rw[h];decide),if_pos hd]
theorem c3C (h:a9G s=true) (hd:(decide (day<0)||decide (day>40000))=false):a3X p s day=(c7v p s day,0):=by unfold a3X;rw[if_neg (by rw[h];decide),if_neg (by rw[hd];decide)]
theorem b6F (v1 v2 v3 v4 v5:Value) (s:ByteArray):a3U [(sKm,v1),(a2N,v2),(a3c,v3),(a8b,v4),(c2K,v5)] s=if s=sKm then some v1 else if s=a2N then some v2 else if s=a3c then some v3 else if s=a8b then some v4 else if s=c2K then some v5 else none:=by
 simp only[a3U]
 simp only[eq_comm (b:=s)]
theorem b3u (s:ByteArray):(s=sKm∨s=a2N∨s=a3c∨s=a8b∨s=c2K)∨a9G s=false:=by
 cases h:a9G s with
 |false=>exact .inr rfl
 |true=>
  left
  have h1:s∈c7w:=of_decide_eq_true h
  simpa[c7w]using h1
theorem d2h:(sKm≠a2N∧sKm≠a3c∧sKm≠a8b∧sKm≠c2K)∧(a2N≠a3c∧a2N≠a8b∧a2N≠c2K)∧(a3c≠a8b∧a3c≠c2K)∧a8b≠c2K:=by decide +kernel
end
section
variable {P:Program} {ρ:Option Nat} {n:Sz} {E:Ent} {I I':IMap} {L:LL} {H H0:List Res} {Q:Exit→Act→World→Prop} {ops:Array Oper} {K:Act→World→Prop}
variable {d ty:Nat} {pos:String} {af:Array Edge} {fo x y z:Operand} {as_:List Operand} {ats:Array TypeId} {f:FuncId} {args:List Value}
theorem a7l {κ:Type} [DecidableEq κ] {enc:κ→Value} {mt kt et r:Nat} {v:Value} {kvs:List (κ×Value)} (kvs':List (κ×Value)) (hK:KeyOK P kt enc) (ht:P.underlying mt=some (.map kt et)) (key:κ) (hx:ev L x=some (.map (some r))) (hy:ev L y=some (enc key)) (hv:ev L z=some v)
  (he:a3P kvs key v=kvs') (k:SX n E I L (.mp r (a1u enc kvs')::H) K):SX n E I L (.mp r (a1u enc kvs)::H) (one P ops Q ⟨none,.insert mt x y z,ty,pos,af,none⟩ K):=by
 intro a w st mm;have h1:=a2i (P:=P) (n:=n) (E:=E) (I:=I) (L:=L) (H:=H) (Q:=Q) (ops:=ops) (K:=K) (ty:=ty) (pos:=pos) (af:=af) kvs' hK ht key hx hy hv he k a w st mm;exact h1
end
end Go.Sx
set_option linter.all false
namespace Go.Sx
open Go
def b2n (s:List Part) (p kind:ByteArray):List ByteArray:=(d1D s p).filter fun n=>decide (((a0f s n).getD zPart).kind=kind)
def a6l (join:Int→Int→Int) (first:Int) (l:List Int):Int:=l.foldl join first
def a6y (s:List Part) (day:Int) (op:Int) (nm vl:ByteArray) (n ex:Int) (fs:List (ByteArray→Int)) (p:ByteArray):Int:=
 if op=1 then 2
 else if op=2 then d3d ((fs.headD fun _=>0) p)
 else if op=3 then a6l b3e 2 (fs.map fun f=>f p)
 else if op=4 then a6l orT 0 (fs.map fun f=>f p)
 else if op=5∨op=6 then
  if (a3X ((a0f s p).getD zPart) nm day).2=0 then
   if op=6 then b0P (a3X ((a0f s p).getD zPart) nm day).1 n else d3d (b0P (a3X ((a0f s p).getD zPart) nm day).1 (n+ex))
  else 0
 else if op=7 then c6U (decide ((⟨nm,vl⟩:Prp)∈((a0f s p).getD zPart).props))
 else if op=8 then c6U (((a0f s p).getD zPart).props.any fun x=>decide (x.key=nm))
 else if op=9 then c6U (s.any fun q=>(decide (q.into=p)&&decide (q.slot=nm))&&decide (q.kind=vl))
 else if op=10 then a6l b3e 2 ((b2n s p nm).map fun q=>(fs.headD fun _=>0) q)
 else if op=11 then a6l orT 0 ((b2n s p nm).map fun q=>(fs.headD fun _=>0) q)
 else c6U (decide (((b2n s p nm).length:Int)≥n))
mutual
def askF (s:List Part) (day:Int):Xp→ByteArray→Int
 |.mk op nm vl n ex ks,p=>a6y s day op nm vl n ex (askKs s day ks) p
def askKs (s:List Part) (day:Int):List Xp→List (ByteArray→Int)
 | []=>[]
 |k::ks=>askF s day k::askKs s day ks
end
def b1m (s:List Part) (x:Xp) (p:ByteArray) (day:Int):Int:=if (!a5m ⟨⟨#[114]⟩,⟨#[107]⟩,x⟩||decide (d0D p s=⟨#[]⟩))=true then 0 else askF s day x p
theorem b3g (s:List Part) (day:Int):∀ks:List Xp,askKs s day ks=ks.map (askF s day)
 | []=>rfl
 |k::ks=>by simp only[askKs,List.map_cons,b3g s day ks]
theorem a3i (s:List Part) (day:Int) (x:Xp) (p:ByteArray):askF s day x p=a6y s day x.op x.name x.value x.n x.extra (x.kids.map (askF s day)) p:=by
 cases x;simp only[askF,b3g];rfl
theorem b8a {t:Int} (h:t=0∨t=1∨t=2):trT t=t:=by unfold trT;split<;>omega
theorem b9S (a b:Int):b3e a b=0∨b3e a b=1∨b3e a b=2:=by
 have:=b4J a;have:=b4J b;unfold b3e;omega
theorem c7M (a b:Int):orT a b=0∨orT a b=1∨orT a b=2:=by
 have:=b4J a;have:=b4J b;unfold orT;omega
theorem b9T (z a b:Int):b3e (b3e z a) b=b3e (b3e z b) a:=by
 have h1:=b8a (b9S z a);have h2:=b8a (b9S z b)
 unfold b3e at *;rw[h1,h2];omega
theorem c5K (z a b:Int):orT (orT z a) b=orT (orT z b) a:=by
 have h1:=b8a (c7M z a);have h2:=b8a (c7M z b)
 unfold orT at *;rw[h1,h2];omega
theorem b1l {join:Int→Int→Int} (hj:∀z a b,join (join z a) b=join (join z b) a) {l m:List Int} (h:l.Perm m):∀z,a6l join z l=a6l join z m:=by
 unfold a6l
 induction h with
 |nil=>intro z;rfl
 |cons x _ ih=>intro z;exact ih _
 |swap x y l=>intro z;simp only[List.foldl_cons];rw[hj]
 |trans _ _ h1 h2=>intro z;rw[h1,h2]
theorem b8E {join:Int→Int→Int} {z:Int} {l:List Int} {i:Nat} (h:i<l.length):join (a6l join z (l.take i)) l[i]=a6l join z (l.take (i+1)):=by
 unfold a6l;rw[←a0c h,List.foldl_append];rfl
theorem c3Y (s:Prp) (l:List Prp):(l.any fun x=>decide (s=x))=decide (s∈l):=by
 rw[Bool.eq_iff_iff,List.any_eq_true,decide_eq_true_eq];exact⟨fun ⟨x,h1,h2⟩=>by rw[of_decide_eq_true h2];exact h1,fun h=>⟨s,h,by simp⟩⟩
section
variable {s:List Part} {p k:ByteArray} {ns:List ByteArray}
theorem b8I (hn:ns.Nodup) (hm:∀n,n∈ns↔a8W s p n):(ns.filter fun n=>decide (((a0f s n).getD zPart).kind=k)).Perm (b2n s p k):=by
 unfold b2n;refine List.Perm.filter _ ?_;rw[List.perm_ext_iff_of_nodup hn c9u];exact fun n=>by rw[hm,b6T]
end
section
variable {s:List Part} {day:Int} {x:Xp} {p:ByteArray}
theorem d4T (h:x.op=1):askF s day x p=2:=by rw[a3i];unfold a6y;rw[if_pos h]
theorem d4U (h:x.op=2) (h1:0<x.kids.length):askF s day x p=d3d (askF s day x.kids[0] p):=by
 rw[a3i];unfold a6y;rw[if_neg oM,if_pos h];obtain⟨k,ks,e⟩:∃k ks,x.kids=k::ks:=by cases hk:x.kids with|nil=>rw[hk]at h1;simp at h1|cons k ks=>exact⟨k,ks,rfl⟩
 simp only[e,List.map_cons,List.headD_cons,List.getElem_cons_zero]
theorem d4V (h:x.op=3):askF s day x p=a6l b3e 2 (x.kids.map fun k=>askF s day k p):=by
 rw[a3i];unfold a6y;rw[if_neg oM,if_neg oM,if_pos h,List.map_map];rfl
theorem d4W (h:x.op=4):askF s day x p=a6l orT 0 (x.kids.map fun k=>askF s day k p):=by
 rw[a3i];unfold a6y;rw[if_neg oM,if_neg oM,if_neg oM,if_pos h,List.map_map];rfl
theorem c8j (h:x.op=5∨x.op=6) (h0:¬(a3X ((a0f s p).getD zPart) x.name day).2=0):askF s day x p=0:=by
 rw[a3i];unfold a6y;rw[if_neg oM,if_neg oM,if_neg oM,if_neg oM,if_pos h,if_neg h0]
theorem d4Y (h:x.op=6) (h0:(a3X ((a0f s p).getD zPart) x.name day).2=0):askF s day x p=b0P (a3X ((a0f s p).getD zPart) x.name day).1 x.n:=by
 rw[a3i];unfold a6y;rw[if_neg oM,if_neg oM,if_neg oM,if_neg oM,if_pos (.inr h),if_pos h0,if_pos h]
theorem d4X (h:x.op=5) (h0:(a3X ((a0f s p).getD zPart) x.name day).2=0):askF s day x p=d3d (b0P (a3X ((a0f s p).getD zPart) x.name day).1 (x.n+x.extra)):=by
 rw[a3i];unfold a6y;rw[if_neg oM,if_neg oM,if_neg oM,if_neg oM,if_pos (.inl h),if_pos h0,if_neg oM]
theorem d4Z (h:x.op=7):askF s day x p=c6U (decide ((⟨x.name,x.value⟩:Prp)∈((a0f s p).getD zPart).props)):=by
 rw[a3i];unfold a6y;rw[if_neg oM,if_neg oM,if_neg oM,if_neg oM,if_neg oM,if_pos h]
theorem d5a (h:x.op=8):askF s day x p=c6U (((a0f s p).getD zPart).props.any fun q=>decide (q.key=x.name)):=by
 rw[a3i];unfold a6y;rw[if_neg oM,if_neg oM,if_neg oM,if_neg oM,if_neg oM,if_neg oM,if_pos h]
theorem d5b (h:x.op=9):askF s day x p=c6U (s.any fun q=>(decide (q.into=p)&&decide (q.slot=x.name))&&decide (q.kind=x.value)):=by
 rw[a3i];unfold a6y;rw[if_neg oM,if_neg oM,if_neg oM,if_neg oM,if_neg oM,if_neg oM,if_neg oM,if_pos h]
theorem b9Y (h1:0<x.kids.length):((x.kids.map (askF s day)).headD fun _=>0)=askF s day x.kids[0]:=by
 obtain⟨k,ks,e⟩:∃k ks,x.kids=k::ks:=by cases hk:x.kids with|nil=>rw[hk]at h1;simp at h1|cons k ks=>exact⟨k,ks,rfl⟩
 simp only[e,List.map_cons,List.headD_cons,List.getElem_cons_zero]
theorem d1R (h:x.op=10) (h1:0<x.kids.length) {ns:List ByteArray} (hp:ns.Perm (b2n s p x.name)):askF s day x p=a6l b3e 2 (ns.map fun q=>askF s day x.kids[0] q):=by
 rw[a3i];unfold a6y;rw[if_neg oM,if_neg oM,if_neg oM,if_neg oM,if_neg oM,if_neg oM,if_neg oM,if_neg oM,if_pos h,b9Y h1];exact (b1l b9T (hp.map _) _).symm
theorem d1S (h:x.op=11) (h1:0<x.kids.length) {ns:List ByteArray} (hp:ns.Perm (b2n s p x.name)):askF s day x p=a6l orT 0 (ns.map fun q=>askF s day x.kids[0] q):=by
 rw[a3i];unfold a6y;rw[if_neg oM,if_neg oM,if_neg oM,if_neg oM,if_neg oM,if_neg oM,if_neg oM,if_neg oM,if_neg oM,if_pos h,b9Y h1];exact (b1l c5K (hp.map _) _).symm
theorem d1T (h:x.op<1∨x.op>11) {ns:List ByteArray} (hp:ns.Perm (b2n s p x.name)):askF s day x p=c6U (decide ((ns.length:Int)≥x.n)):=by
 rw[a3i];unfold a6y;rw[if_neg oM,if_neg oM,if_neg oM,if_neg oM,if_neg oM,if_neg oM,if_neg oM,if_neg oM,if_neg oM,if_neg oM,hp.length_eq]
theorem a5Y (h:allX a4l x=true):a4l x=true∧∀k∈x.kids,allX a4l k=true:=by
 have hl:∀ks:List Xp,allXL a4l ks=true→∀k∈ks,allX a4l k=true:=fun ks=>by
  induction ks with
  |nil=>intro _ k hk;cases hk
  |cons y ks ih=>
   intro h k hk
   simp only[allXL,Bool.and_eq_true]at h
   rcases List.mem_cons.1 hk with rfl|hk
   ·exact h.1
   ·exact ih h.2 k hk
 obtain⟨op,nm,vl,n,e,ks⟩:=x
 simp only[allX,Bool.and_eq_true]at h
 exact⟨h.1,hl ks h.2⟩
theorem a9T (h:a4l x=true) (h1:x.op=2∨x.op=10∨x.op=11):x.kids.length=1:=by
 have hq:a3p x=some (decide ((x.kids.length:Int)=1),decide (x.op≠2),⟨#[]⟩,0,0,true):=by
  rcases h1 with h1|h1
  ·rw[c1N h1,h1];rfl
  ·rw[b7s h1];have:decide (x.op≠2)=true:=decide_eq_true oM;rw[this]
 rw[a2r hq]at h
 simp only[a9S,Bool.and_eq_true,decide_eq_true_eq]at h
 omega
theorem c5C (h:a4l x=true) (h1:x.op=5∨x.op=6):(0≤x.n∧x.n≤9999999)∧(0≤x.extra∧x.extra≤9999999):=by
 rcases h1 with h1|h1
 ·rw[a2r (b5E h1)]at h
  simp only[a9S,b2y,Bool.and_eq_true,decide_eq_true_eq,if_true]at h
  omega
 ·rw[a2r (c1O h1)]at h
  simp only[a9S,b2y,Bool.and_eq_true,decide_eq_true_eq,if_true]at h
  omega
end
end Go.Sx
set_option linter.all false
namespace Go.Sx
open Go
section
variable {d:Dut} {l:List Evt} {p:ByteArray} {day b:Int}
end
section
variable {α:Type} [DecidableEq α] {lt:α→α→Bool} {x:α}
theorem b6Y:∀(l:List α),(b4R lt x l).length≤l.length+1
 | []=>by simp[b4R]
 |y::l=>by
  simp only[b4R]
  split
  ·have:=b6Y l;simp;omega
  ·split
   ·simp
   ·simp
theorem c6O (l:List α):(a6v lt l).length≤l.length:=by
 have key:∀(l a:List α),(l.foldl (fun a x=>b4R lt x a) a).length≤a.length+l.length:=by
  intro l
  induction l with
  |nil=>intro a;simp
  |cons y l ih=>intro a;have h1:=ih (b4R lt y a);have h2:=b6Y (lt:=lt) (x:=y) a;simp only[List.foldl_cons,List.length_cons];omega
 have h:=key l [];rw[List.length_nil,Nat.zero_add]at h
 exact h
end
section
variable {d:Dut} {ds:List Dut} {c:List Kind} {l:List Evt} {p k:ByteArray} {day n:Int} {i:Nat}
end
end Go.Sx
set_option linter.all false
namespace Go.Sx
open Go
section
variable {κ:Type} [DecidableEq κ]
def KeysG (kvs:List (κ×Value)) (L:List κ):Prop:=(kvs.map Prod.fst).Nodup∧∀x,x∈kvs.map Prod.fst↔x∈L
theorem KeysG.nil:KeysG ([]:List (κ×Value)) []:=⟨List.nodup_nil,fun x=>Iff.rfl⟩
theorem KeysG.put {kvs:List (κ×Value)} {L:List κ} {x:κ} {v:Value} (h:KeysG kvs L):KeysG (a3P kvs x v) (L++[x]):=
 ⟨a9P h.1,fun z=>by rw[a7g,h.2,List.mem_append,List.mem_singleton,or_comm]⟩
theorem KeysG.one {kvs:List (κ×Value)} {L m:List κ} {v:Value} (h:KeysG kvs L) (h1:m.length=1):KeysG (a3P kvs (m[0]'oM) v) (L++m):=by
 match m,h1 with
 | [x],_=>exact h.put
theorem KeysG.zero {kvs:List (κ×Value)} {L m:List κ} (h:KeysG kvs L) (h0:¬((m.length:Nat):Int)=1) (hle:m.length≤1):KeysG kvs (L++m):=by
 match m with
 | []=>rw[List.append_nil];exact h
 | [x]=>exact absurd rfl h0
end
section
variable {ds:List Dut} {c:List Kind} {l:List Evt} {p:ByteArray} {day:Int} {i:Nat}
end
end Go.Sx
set_option linter.all false
namespace Go.Sx
open Go
def d6C (l:List Rep) (ch:List Int):Bool:=decide (((l.length:Nat):Int)=(ch.length:Nat))&&a8Z okK l ch l.length
theorem b1B (l:List Rep) (ch:List Int):a2f l ch=if d6C l ch=true then (a6k l ch l.length,0) else ([],1):=rfl
theorem d2v {l:List Rep} {ch:List Int} {n:Nat} {e:Evt} (hsl:∀r∈l,∀e∈r.options,SmE e) (h:e∈a6k l ch n):SmE e:=by
 rw[a6k,List.mem_filterMap]at h
 obtain⟨i,_,h⟩:=h;unfold d2r at2 at h
 split at h
 ·rename_i r k h1 h2
  exact hsl r (List.mem_of_getElem? h1) e (List.mem_of_getElem? (by simpa using h))
 ·simp at h
end Go.Sx
set_option linter.all false
namespace Go.Sx
open Go
def a5F:List Rep→List Int→List Int×Bool
 |r::l,x::t=>if (a5F l t).2=true then (x::(a5F l t).1,true) else if x+1<chs r then ((x+1)::(a5F l t).1,true) else (0::(a5F l t).1,false)
 |_,_=>([],false)
def b6x (n:Nat):List Int:=List.replicate n 0
structure Chn (l:List Rep) (xs:List (List Int)):Prop where
 pos:0<xs.length
 first:xs[0]? = some (b6x l.length)
 step:∀k (h:k+1<xs.length),a5F l xs[k]=(xs[k+1],true)
 last:∀(h:xs.length-1<xs.length),a5F l xs[xs.length-1]=(b6x l.length,false)
theorem c4N {α:Type} {xs:List α} {n m:Nat} (f:Nat→α→List Int) (hm:xs.length=m):∀{q i:Nat} (hq:q<n) (hi:i<m),((List.range n).flatMap fun k=>xs.map (f k))[q * m+i]? = (xs[i]?).map (f q):=by
 induction n with
 |zero=>intro q i hq;omega
 |succ n ih=>
  intro q i hq hi;rw[List.range_succ,List.flatMap_append]
  have hlen:((List.range n).flatMap fun k=>xs.map (f k)).length=n * m:=by
   rw[List.length_flatMap]
   simp only[List.length_map,hm]
   rw[List.map_const',List.sum_replicate_nat,List.length_range]
  by_cases h:q<n
  ·rw[List.getElem?_append_left (by
    rw[hlen];have:(q+1) * m≤n * m:=Nat.mul_le_mul_right _ h
    rw[Nat.add_mul]at this;omega)]
   exact ih h hi
  ·obtain rfl:q=n:=oM;rw[List.getElem?_append_right (by rw[hlen];omega),hlen]
   simp
theorem b4S:∀{l:List Rep},(∀r∈l,1≤chs r)→Chn l (a2u l)
 | [],_=>⟨by simp[a2u],rfl,fun k h=>by simp[a2u]at h,fun h=>rfl⟩
 |r::l,hp=>by
  have ih:=b4S (l:=l) fun x hx=>hp x (List.mem_cons_of_mem _ hx)
  have hr:=hp r (by simp);obtain⟨m,hm⟩:∃m,(a2u l).length=m:=⟨_,rfl⟩;obtain⟨n,hn⟩:∃n,(chs r).toNat=n:=⟨_,rfl⟩;have hm0:0<m:=by rw[←hm];exact ih.pos
  have hlen:(a2u (r::l)).length=n * m:=by rw[b4T,a4d,hn,←b4T,hm]
  have hat:∀{q i:Nat} (hq:q<n) (hi:i<m),(a2u (r::l))[q * m+i]? = ((a2u l)[i]?).map fun t=>(q:Int)::t:=fun hq hi=>by
   rw[a2u,hn];exact c4N (fun (k:Nat) t=>(k:Int)::t) hm hq hi
  have hn0:0<n:=oM
  have hge:∀{k:Nat} (h:k<(a2u (r::l)).length),∃(q i:Nat) (hq:q<n) (hi:i<(a2u l).length),k=q * m+i∧(a2u (r::l))[k]=(q:Int)::(a2u l)[i]:=fun {k} h=>by
   rw[hlen]at h
   have hq:k / m<n:=(Nat.div_lt_iff_lt_mul hm0).2 h;have hi:k % m<m:=Nat.mod_lt _ hm0;have he:k=k / m * m+k % m:=by rw[Nat.mul_comm];exact (Nat.div_add_mod k m).symm
   refine⟨k / m,k % m,hq,by rw[hm];exact hi,he,?_⟩;have h1:=hat hq hi;rw[←he,List.getElem?_eq_getElem (by rw[hlen];exact h),List.getElem?_eq_getElem (by rw[hm];exact hi)]at h1
   exact Option.some.inj h1
  refine⟨by rw[hlen];exact Nat.mul_pos hn0 hm0,?_,fun k h=>?_,fun h=>?_⟩
  ·have:=hat hn0 hm0;rw[Nat.zero_mul,Nat.zero_add,ih.first]at this
   rw[this];simp[b6x,List.replicate_succ]
  ·obtain⟨q,i,hq,hi,hk,e1⟩:=hge (k:=k) oM;rw[e1]
   simp only[a5F]
   rw[hm]at hi
   by_cases hl:i+1<m
   ·have e2:=ih.step i (by rw[hm];exact hl);rw[e2]
    simp only[if_true]
    have h3:=hat hq hl;rw[show q * m+(i+1)=k+1 from oM,List.getElem?_eq_getElem h,List.getElem?_eq_getElem (by rw[hm];exact hl)]at h3
    rw[Option.some.inj h3]
   ·have hi1:i=m-1:=oM
    have e2:a5F l ((a2u l)[i]'(by rw[hm];exact hi))=(b6x l.length,false):=by
     have:=ih.last oM
     simp only[hm]at this
     subst hi1;exact this
    rw[e2];rw[hlen]at h
    have hq1:q+1<n:=by
     rcases Nat.lt_or_ge (q+1) n with h1|h1
     ·exact h1
     ·have:n * m≤(q+1) * m:=Nat.mul_le_mul_right _ h1;rw[Nat.add_mul]at this;omega
    have h3:=hat hq1 hm0;rw[show (q+1) * m+0=k+1 by rw[Nat.add_mul];omega,List.getElem?_eq_getElem (by rw[hlen];exact h),ih.first]at h3
    rw[Option.some.inj h3];rw[if_neg (show ¬(false=true) by decide),if_pos oM]
    simp
  ·obtain⟨q,i,hq,hi,hk,e1⟩:=hge h;rw[e1];rw[hm]at hi
   rw[hlen]at hk
   have hqm:q+1=n:=by
    rcases Nat.lt_or_ge (q+1) n with h1|h1
    ·have h2:(q+2) * m≤n * m:=Nat.mul_le_mul_right _ h1;rw[Nat.add_mul]at h2;omega
    ·omega
   have hi1:i=m-1:=by
    subst hqm;rw[Nat.add_mul]at hk;omega
   have e2:a5F l ((a2u l)[i]'(by rw[hm];exact hi))=(b6x l.length,false):=by
    have:=ih.last oM
    simp only[hm]at this
    subst hi1;exact this
   simp only[a5F]
   rw[e2,if_neg (show ¬(false=true) by decide),if_neg oM]
   simp[b6x,List.replicate_succ]
end Go.Sx
set_option linter.all false
namespace Go.Sx
open Go
section
variable {l:List Rep} {t m:List Int} {j:Nat}
end
structure Evy (c:List Kind) (l:List Rep) (most:Int) (k:Nat) (b:Bool) (ch:List Int) (out:List (List Int)):Prop where
 is:out=((a2u l).take k).filter (isF c l)
 le:(out.length:Int)≤most
 at_:(b=true∧∃h:k<(a2u l).length,ch=(a2u l)[k])∨(b=false∧k=(a2u l).length)
section
variable {c:List Kind} {l:List Rep} {most:Int} {k:Nat} {b:Bool} {ch:List Int} {out:List (List Int)}
theorem c2j (hp:∀r∈l,chs r≠0):∀r∈l,1≤chs r:=fun r hr=>by have:=hp r hr;have:=b0Z r;omega
theorem Evy.start (hp:∀r∈l,chs r≠0) (h:1≤most):Evy c l most 0 true (b6x l.length) []:=by
 have hC:=b4S (c2j hp);refine⟨rfl,by simp;omega,.inl ⟨rfl,hC.pos,?_⟩⟩;have:=hC.first;rw[List.getElem?_eq_getElem hC.pos]at this
 exact (Option.some.inj this).symm
theorem Evy.mem (h:Evy c l most k true ch out):ch∈a2u l:=by
 rcases h.at_ with ⟨_,h1,rfl⟩|⟨h1,_⟩
 ·exact List.getElem_mem h1
 ·cases h1
theorem Evy.lt (h:Evy c l most k true ch out):k<(a2u l).length:=by
 rcases h.at_ with ⟨_,h1,_⟩|⟨h1,_⟩
 ·exact h1
 ·cases h1
theorem Evy.next_at (hp:∀r∈l,chs r≠0) (h:Evy c l most k true ch out):((a5F l ch).2=true∧∃h:k+1<(a2u l).length,(a5F l ch).1=(a2u l)[k+1])∨((a5F l ch).2=false∧k+1=(a2u l).length):=by
 have hC:=b4S (c2j hp)
 rcases h.at_ with ⟨_,h1,rfl⟩|⟨h1,_⟩
 ·rcases Nat.lt_or_ge (k+1) (a2u l).length with h2|h2
  ·have:=hC.step k h2;exact .inl ⟨by rw[this],h2,by rw[this]⟩
  ·obtain rfl:k=(a2u l).length-1:=oM;have:=hC.last oM;exact .inr ⟨by rw[this],oM⟩
 ·cases h1
theorem Evy.yes (hp:∀r∈l,chs r≠0) (h:Evy c l most k true ch out) (hl:(out.length:Int)<most) (hi:isF c l ch=true):Evy c l most (k+1) (a5F l ch).2 (a5F l ch).1 (out++[ch]):=by
 refine⟨?_,by simp;omega,h.next_at hp⟩
 obtain⟨h1,rfl⟩:∃h:k<(a2u l).length,ch=(a2u l)[k]:=by
  rcases h.at_ with ⟨_,h1⟩|⟨h1,_⟩
  ·exact h1
  ·cases h1
 rw[←a0c h1,List.filter_append,h.is];simp[hi]
theorem Evy.no (hp:∀r∈l,chs r≠0) (h:Evy c l most k true ch out) (hi:isF c l ch=false):Evy c l most (k+1) (a5F l ch).2 (a5F l ch).1 out:=by
 refine⟨?_,h.le,h.next_at hp⟩
 obtain⟨h1,rfl⟩:∃h:k<(a2u l).length,ch=(a2u l)[k]:=by
  rcases h.at_ with ⟨_,h1⟩|⟨h1,_⟩
  ·exact h1
  ·cases h1
 rw[←a0c h1,List.filter_append,h.is];simp[hi]
end
theorem c2g (l:List Rep) (ch:List Int):(a2f l ch).1.length≤l.length:=by
 rw[b1B]
 split
 ·exact c0W _ _ _
 ·simp
theorem c2h {l:List Rep} {ch:List Int} (hsl:∀r∈l,∀e∈r.options,SmE e):∀e∈(a2f l ch).1,SmE e:=fun e he=>by
 rw[b1B]at he
 split at he
 ·exact d2v hsl he
 ·cases he
section
variable {c:List Kind} {l:List Rep}
end
end Go.Sx
set_option linter.all false
namespace Go.Sx
open Go
def Plc.eqB (a b:Plc):Bool:=decide (a.into=b.into)&&(decide (a.slot=b.slot)&&true)
theorem Plc.eqB_eq (a b:Plc):Plc.eqB a b=decide (a=b):=by
 cases a;cases b;simp[Plc.eqB]
instance:Inhabited Plc:=⟨⟨a0O,a0O⟩⟩
theorem d3b (a b:List Nat):nI (a++b)=nI a++nI b:=by simp[nI]
theorem c2f {l:List Rep} {C:List Nat} {i:Nat} (hi:i<C.length) (h:C[i]<l.length):a5w l (C.take (i+1))=a5w l (C.take i)++[l[C[i]]]:=by
 rw[←a0c hi,b4m,a7Z h];rfl
theorem d4d {α:Type} {lt:α→α→Bool} (hi:∀a,lt a a=false) (ht:∀a b c,lt a b=true→lt b c=true→lt a c=true) (h3:∀x y,lt y x=false→y≠x→lt x y=true):Sort.SWO lt:=by
 refine⟨hi,ht,fun x y z h1 h2=>?_⟩
 cases h4:lt x z with
 |false=>rfl
 |true=>
  by_cases e:x=y
  ·subst e;rw[h4]at h2;cases h2
  ·have h5:=ht _ _ _ (h3 y x h1 e) h4;rw[h5]at h2;cases h2
theorem c2R {α:Type} {cf:α→α→Int} {l l' m:List α} (h:c3S cf l m) (hp:l.Perm l'):c3S cf l' m:=⟨h.1.trans hp,h.2⟩
theorem KeysG.len {κ:Type} [DecidableEq κ] {kvs:List (κ×Value)} {L:List κ} (h:KeysG kvs L):kvs.length≤L.length:=by
 have h1:(kvs.map Prod.fst).length≤L.length:=List.Nodup.length_le_of_subset h.1 fun x hx=>(h.2 x).1 hx
 simpa using h1
section
variable {κ:Type} {pre:List κ} {todo a b kvs:List (κ×Value)} {e:κ×Value}
theorem b8O (hP:(pre++todo.map Prod.fst).Perm (kvs.map Prod.fst)) (h:todo=a++e::b):((pre++[e.1])++(a++b).map Prod.fst).Perm (kvs.map Prod.fst):=by
 subst h;refine List.Perm.trans ?_ hP;rw[List.append_assoc];refine List.Perm.append_left _ ?_
 simp only[List.map_append,List.map_cons,List.singleton_append]
 exact List.perm_middle.symm
theorem c5g (hP:(pre++todo.map Prod.fst).Perm (kvs.map Prod.fst)) (h:todo=a++e::b):pre.length<kvs.length:=by
 subst h;have:=hP.length_eq
 simp at this
 omega
end
theorem c2V {I:IMap} (l:List ByteArray):Flat I (l.map Value.string) l:=by
 induction l with
 |nil=>exact .nil
 |cons x l ih=>exact .cons rfl ih
section
variable {c:List Kind} {own:List Rep} {p:ByteArray} {day:Int} {all:List (List Int)} {i:Nat}
end
section
variable {s:List Part} {q:ByteArray} {i:Nat} {y z:ByteArray}
theorem c2E (hi:i<s.length) (h:(a0f s q).isSome=false):rootGo s (s.length-i) q=a0O:=by
 obtain⟨n,hn⟩:∃n,s.length-i=n+1:=⟨s.length-i-1,oM⟩;rw[hn];unfold rootGo
 cases hf:a0f s q with
 |none=>rfl
 |some x=>rw[hf]at h;cases h
theorem c2C (hi:i<s.length) (h:(a0f s q).isSome=true) (h2:((a0f s q).getD zPart).into=a0O):rootGo s (s.length-i) q=q:=by
 obtain⟨n,hn⟩:∃n,s.length-i=n+1:=⟨s.length-i-1,oM⟩;rw[hn];unfold rootGo
 cases hf:a0f s q with
 |none=>rw[hf]at h;cases h
 |some x=>rw[hf]at h2;exact if_pos h2
theorem c2D (hi:i<s.length) (h:(a0f s q).isSome=true) (h2:¬((a0f s q).getD zPart).into=a0O):rootGo s (s.length-i) q=rootGo s (s.length-(i+1)) ((a0f s q).getD zPart).into:=by
 obtain⟨n,hn⟩:∃n,s.length-i=n+1:=⟨s.length-i-1,oM⟩;rw[hn,show s.length-(i+1)=n by omega]
 conv=>lhs;unfold rootGo
 cases hf:a0f s q with
 |none=>rw[hf]at h;cases h
 |some x=>rw[hf]at h2;exact if_neg h2
end
end Go.Sx
set_option linter.all false
namespace Go.Sx
open Go
structure Flt where
 kind:Int
 part:ByteArray
 name:ByteArray
 deriving DecidableEq
def Flt.cells (x:Flt):List Value:=[ci x.kind,.string x.part,.string x.name]
instance:Enc Flt where
 k:=3
 rd _ vs x:=vs=x.cells
 len h:=by rw[h];rfl
 mono _ h:=h
 one h:=by rw[h];rfl
def Flt.eqB (a b:Flt):Bool:=decide (a.kind=b.kind)&&(decide (a.part=b.part)&&(decide (a.name=b.name)&&true))
theorem Flt.eqB_eq (a b:Flt):Flt.eqB a b=decide (a=b):=by
 cases a;cases b;simp[Flt.eqB]
instance:Inhabited Flt:=⟨⟨0,a0O,a0O⟩⟩
def a3E (x:Flt):Value:=.agg x.cells.toArray
theorem c4Q {I:IMap} (l:List Flt):Flat I (l.flatMap Flt.cells) l:=by
 induction l with
 |nil=>exact .nil
 |cons x l ih=>rw[List.flatMap_cons];exact .cons rfl ih
theorem c5i (x:Xp):x.kids.length≤cntX x:=by
 have h:∀ks:List Xp,ks.length≤cntXL ks:=fun ks=>by
  induction ks with
  |nil=>exact Nat.zero_le _
  |cons k ks ih=>
   have:1≤cntX k:=by cases k;simp[cntX]
   simp only[List.length_cons,cntXL];omega
 obtain⟨op,nm,vl,n,e,ks⟩:=x;have:=h ks
 simp only[cntX]
 show ks.length≤_;omega
theorem c4V {x:Xp} {a k:ByteArray} (h:a5m ⟨a,k,x⟩=true):allX a4l x=true∧cntX x≤60:=by
 simp only[a5m,b1P,Bool.and_eq_true,decide_eq_true_eq]at h
 have h1:=d0T x;exact⟨h.2.2,by have:=h.2.1;omega⟩
def d3q (a b:Flt):Bool:=sLt a.part b.part||(decide (a.part=b.part)&&sLt a.name b.name)
def a4i (a b:Flt):Bool:=decide (a.kind<b.kind)||(decide (a.kind=b.kind)&&d3q a b)
theorem a5C (a:Flt):a4i a a=false:=by simp[a4i,d3q,a1h]
theorem a5i (a b c:Flt) (h1:a4i a b=true) (h2:a4i b c=true):a4i a c=true:=by
 simp only[a4i,d3q,Bool.or_eq_true,Bool.and_eq_true,decide_eq_true_eq]at *
 rcases h1 with h1|⟨e1,h1⟩
 ·rcases h2 with h2|⟨e2,h2⟩
  ·exact .inl oM
  ·exact .inl oM
 ·rcases h2 with h2|⟨e2,h2⟩
  ·exact .inl oM
  ·refine .inr ⟨oM,?_⟩
   rcases h1 with h1|⟨e3,h1⟩
   ·rcases h2 with h2|⟨e4,h2⟩
    ·exact .inl (a1s h1 h2)
    ·exact .inl (e4▸h1)
   ·rcases h2 with h2|⟨e4,h2⟩
    ·exact .inl (e3▸h2)
    ·exact .inr ⟨e3.trans e4,a1s h1 h2⟩
theorem a9C {x y:Flt} (h:a4i y x=false) (hn:y≠x):a4i x y=true:=by
 simp only[a4i,d3q,Bool.or_eq_false_iff,Bool.and_eq_false_iff,decide_eq_false_iff_not,Bool.or_eq_true,Bool.and_eq_true,decide_eq_true_eq]at *
 obtain⟨h1,h2⟩:=h
 by_cases hk:x.kind<y.kind
 ·exact .inl hk
 ·have ek:y.kind=x.kind:=oM;refine .inr ⟨ek.symm,?_⟩;obtain⟨h3,h4⟩:=h2.resolve_left fun h=>h ek
  by_cases ep:y.part=x.part
  ·refine .inr ⟨ep.symm,a7t (h4.resolve_left fun h=>h ep) fun en=>hn ?_⟩
   cases x;cases y;simp_all
  ·exact .inl (a7t h3 ep)
def a7H (a b:Flt):Int:=orI [a8F a.kind b.kind,a8G a.part b.part,a8G a.name b.name]
theorem b6C {a b:Flt}:a7H a b<0↔a4i a b=true:=by
 have h1:a7H a b=if a8F a.kind b.kind=0 then (if a8G a.part b.part=0 then (if a8G a.name b.name=0 then 0 else a8G a.name b.name) else a8G a.part b.part) else a8F a.kind b.kind:=by
  unfold a7H orI orI orI orI
  simp only[ne_eq,ite_not]
 have hI:(a8F a.kind b.kind<0↔a.kind<b.kind)∧(a8F a.kind b.kind=0↔a.kind=b.kind):=by
  unfold a8F;constructor<;>(split<;>(try split)<;>omega)
 rw[h1];unfold a4i d3q;rw[Bool.or_eq_true,Bool.and_eq_true,Bool.or_eq_true,Bool.and_eq_true,decide_eq_true_eq,decide_eq_true_eq,decide_eq_true_eq,←a5R,←a5R]
 by_cases h:a8F a.kind b.kind=0
 ·rw[if_pos h];have e:=hI.2.1 h
  by_cases h2:a8G a.part b.part=0
  ·rw[if_pos h2];have e2:=a6Q.1 h2
   by_cases h3:a8G a.name b.name=0
   ·rw[if_pos h3];omega
   ·rw[if_neg h3]
    constructor
    ·exact fun h4=>.inr ⟨e,.inr ⟨e2,h4⟩⟩
    ·rintro (h4|⟨_,h4|h4⟩)
     ·omega
     ·omega
     ·exact h4.2
  ·rw[if_neg h2];have e2:¬a.part=b.part:=fun e=>h2 (a6Q.2 e)
   constructor
   ·exact fun h4=>.inr ⟨e,.inl h4⟩
   ·rintro (h4|⟨_,h4|h4⟩)
    ·omega
    ·exact h4
    ·exact absurd h4.1 e2
 ·rw[if_neg h,hI.1];have e:¬a.kind=b.kind:=fun e=>h (hI.2.2 e)
  constructor
  ·exact .inl
  ·rintro (h3|h3)
   ·exact h3
   ·exact absurd h3.1 e
theorem c5r:Proofs.ltOf a7H=a4i:=by
 funext a b
 rw[Bool.eq_iff_iff]
 simp only[Proofs.ltOf,decide_eq_true_eq]
 exact b6C
theorem c9l:Sort.SWO (Proofs.ltOf a7H):=by rw[c5r];exact d4d a5C a5i fun x y h hn=>a9C h hn
theorem c6N {l m:List Flt} (h:c3S a7H l m) (hn:l.Nodup):SrtU a4i m:=by
 have h1:m.Nodup:=(h.1.nodup_iff).2 hn;have h2:=List.nodup_iff_pairwise_ne.1 h1;refine List.Pairwise.imp₂ (fun a b hab hne=>?_) h.2 h2
 cases h3:a4i b a with
 |true=>exact absurd (b6C.2 h3) hab
 |false=>exact a9C h3 fun e=>hne e.symm
theorem a8c (l:List Flt):SrtU a4i (a6v a4i l):=a7w a5i fun x _ y _ h hn=>a9C h hn
theorem b4D {kvs:List (Flt×Value)} {L m:List Flt} (hK:KeysG kvs L) (h:c3S a7H (kvs.map Prod.fst) m):m=a6v a4i L:=
 SrtU.uniq a5C a5i (c6N h hK.1) (a8c L) fun z=>by rw[h.1.mem_iff,hK.2,a4D]
theorem c6L {l m:List Flt} (h:∀z,z∈l↔z∈m):a6v a4i l=a6v a4i m:=
 SrtU.uniq a5C a5i (a8c l) (a8c m) fun z=>by rw[a4D,a4D,h]
def a7F (kvs:List (Flt×Value)) (ks:List Flt):List (Flt×Value):=ks.foldl (fun k x=>a3P k x (.bool true)) kvs
theorem a6d (kvs:List (Flt×Value)) (a b:List Flt):a7F (a7F kvs a) b=a7F kvs (a++b):=by unfold a7F;rw[List.foldl_append]
theorem a5I:∀(ks:List Flt) {kvs:List (Flt×Value)} {L:List Flt},KeysG kvs L→KeysG (a7F kvs ks) (L++ks)
 | [],kvs,L,h=>by rw[List.append_nil];exact h
 |x::ks,kvs,L,h=>by
  have:=a5I ks (h.put (x:=x) (v:=.bool true));rw[List.append_assoc]at this;exact this
theorem c2r {kvs:List (Flt×Value)} {ns:List ByteArray} {f:ByteArray→Flt} {i:Nat} (h:i<ns.length):a3P (a7F kvs ((ns.take i).map f)) (f ns[i]) (.bool true)=a7F kvs ((ns.take (i+1)).map f):=by
 unfold a7F;rw[←a0c h,List.map_append,List.foldl_append];rfl
theorem c3X (s:Int) (l:List Int):(l.any fun x=>decide (s=x))=decide (s∈l):=by
 rw[Bool.eq_iff_iff,List.any_eq_true,decide_eq_true_eq];exact⟨fun ⟨x,h1,h2⟩=>by rw[of_decide_eq_true h2];exact h1,fun h=>⟨s,h,by simp⟩⟩
structure Hld where
 id:ByteArray
 vehicle:ByteArray
 members:List Int
 back:List Int
def Hld.cs (x:Hld) (a b:Value):List Value:=[.string x.id,.string x.vehicle,a,b]
instance:Enc Hld where
 k:=4
 rd I vs x:=∃a b,vs=x.cs a b∧RdS I a x.members∧RdS I b x.back
 len h:=by obtain⟨_,_,rfl,_⟩:=h;rfl
 mono hI h:=by obtain⟨a,b,rfl,h1,h2⟩:=h;exact⟨a,b,rfl,h1.le hI,h2.le hI⟩
 one h:=by obtain⟨a,b,rfl,⟨A,c,rfl,_⟩,⟨B,d,rfl,_⟩⟩:=h;rfl
structure Bok where
 rules:List Rul
 subs:List Sbu
 duties:List Dut
 conc:List Cnc
 recalls:List Rul
 holds:List Hld
structure BokRd (I:IMap) (v0 v1 v2 v3 v4 v5:Value) (b:Bok):Prop where
 r0:RdS I v0 b.rules
 r1:RdS I v1 b.subs
 r2:RdS I v2 b.duties
 r3:RdS I v3 b.conc
 r4:RdS I v4 b.recalls
 r5:RdS I v5 b.holds
theorem BokRd.le {I I':IMap} {v0 v1 v2 v3 v4 v5:Value} {b:Bok} (h:BokRd I v0 v1 v2 v3 v4 v5 b) (hI:ILe I I'):BokRd I' v0 v1 v2 v3 v4 v5 b:=⟨h.r0.le hI,h.r1.le hI,h.r2.le hI,h.r3.le hI,h.r4.le hI,h.r5.le hI⟩
theorem BokRd.one {I:IMap} {v0 v1 v2 v3 v4 v5:Value} {b:Bok} (h:BokRd I v0 v1 v2 v3 v4 v5 b):[v0,v1,v2,v3,v4,v5].all (·.oneCell')=true:=by
 simp[h.r0.one,h.r1.one,h.r2.one,h.r3.one,h.r4.one,h.r5.one]
instance:Enc Bok where
 k:=6
 rd I vs b:=∃v0 v1 v2 v3 v4 v5,vs=[v0,v1,v2,v3,v4,v5]∧BokRd I v0 v1 v2 v3 v4 v5 b
 len h:=by obtain⟨_,_,_,_,_,_,rfl,_⟩:=h;rfl
 mono hI h:=by obtain⟨a,b,c,d,e,f,rfl,h⟩:=h;exact⟨a,b,c,d,e,f,rfl,h.le hI⟩
 one h:=by obtain⟨_,_,_,_,_,_,rfl,h⟩:=h;exact h.one
structure OkBok (b:Bok):Prop where
 rules:∀r∈b.rules,a4R r
 recalls:∀r∈b.recalls,a4R r
 duties:∀d∈b.duties,SmD d
 r100:b.rules.length≤100
 c100:b.recalls.length≤100
 d100:b.duties.length≤100
 h100:b.holds.length≤100
theorem OkBok.dl {b:Bok} (h:OkBok b):b.duties.length≤1000000:=Nat.le_trans h.d100 oM
def d4N (h:Hld):Bool:=h.members.any fun m=>!decide (m∈h.back)
def a6H (b:Bok) (s:List Part) (day:Int) (p:Part) (r:Rul):Bool:=(decide (r.kind=p.kind) && !c0X b.conc p.name r.name day) && !decide (b1m s r.cond p.name day=2)
def b1C (s:List Part) (day:Int) (p:Part) (r:Rul):Bool:=decide (r.kind=p.kind) && !decide (b1m s r.cond p.name day=0)
def a3q (b:Bok) (s:List Part) (day:Int) (p:Part) (l:List Rul):List Flt:=(l.filter (a6H b s day p)).map fun r=>⟨1,p.name,r.name⟩
def a5G (s:List Part) (day:Int) (p:Part) (l:List Rul):List Flt:=(l.filter (b1C s day p)).map fun r=>⟨5,p.name,r.name⟩
def a7m (b:Bok) (c:List Kind) (l:List Evt) (day:Int) (p:Part):List Flt:=(b2s b.duties c l p.name day).map fun n=>⟨3,p.name,n⟩
def b4d (b:Bok) (c:List Kind) (s:List Part) (day:Int) (p:Part):List Flt:=if b0R c b.subs s p.name day=false then [⟨2,p.name,p.slot⟩] else []
def a2j (b:Bok) (c:List Kind) (l:List Evt) (s:List Part) (day:Int) (p:Part):List Flt:=a3q b s day p b.rules++a5G s day p b.recalls++a7m b c l day p++b4d b c s day p
def a2K (v:ByteArray) (l:List Hld):List Flt:=(l.filter fun h=>decide (h.vehicle=v)&&d4N h).map fun h=>⟨6,v,h.id⟩
section
variable {b:Bok} {s:List Part} {day:Int} {p:Part} {l:List Rul} {i:Nat} {v:ByteArray} {hl:List Hld} {kvs:List (Flt×Value)}
theorem b5M (h:i<l.length) (hb:a6H b s day p l[i]=true):a3q b s day p (l.take (i+1))=a3q b s day p (l.take i)++[⟨1,p.name,l[i].name⟩]:=by
 unfold a3q;rw[←a0c h,List.filter_append];simp[hb]
theorem a7W (h:i<l.length) (hb:a6H b s day p l[i]=false):a3q b s day p (l.take (i+1))=a3q b s day p (l.take i):=by
 unfold a3q;rw[←a0c h,List.filter_append];simp[hb]
theorem b8Y (h:i<l.length) (hb:b1C s day p l[i]=true):a5G s day p (l.take (i+1))=a5G s day p (l.take i)++[⟨5,p.name,l[i].name⟩]:=by
 unfold a5G;rw[←a0c h,List.filter_append];simp[hb]
theorem b4c (h:i<l.length) (hb:b1C s day p l[i]=false):a5G s day p (l.take (i+1))=a5G s day p (l.take i):=by
 unfold a5G;rw[←a0c h,List.filter_append];simp[hb]
theorem b5L (h:i<hl.length) (hb:(decide (hl[i].vehicle=v)&&d4N hl[i])=true):a2K v (hl.take (i+1))=a2K v (hl.take i)++[⟨6,v,hl[i].id⟩]:=by
 unfold a2K;rw[←a0c h,List.filter_append,List.filter_cons,if_pos hb];simp
theorem b1w (h:i<hl.length) (hb:(decide (hl[i].vehicle=v)&&d4N hl[i])=false):a2K v (hl.take (i+1))=a2K v (hl.take i):=by
 unfold a2K;rw[←a0c h,List.filter_append,List.filter_cons,if_neg (by rw[hb];decide)];simp
end
theorem c5l (ds:List Dut) (c:List Kind) (l:List Evt) (p:ByteArray) (day:Int):(b2s ds c l p day).length≤ds.length:=by
 unfold b2s;refine Nat.le_trans (c6O _) ?_;rw[List.length_map];exact Nat.le_trans (List.length_filter_le _ _) (b4l ds c l p day)
theorem b1x {b:Bok} (h:OkBok b) (c:List Kind) (l:List Evt) (s:List Part) (day:Int) (p:Part):(a2j b c l s day p).length≤301:=by
 have h1:(a3q b s day p b.rules).length≤100:=by unfold a3q;rw[List.length_map];exact Nat.le_trans (List.length_filter_le _ _) h.r100
 have h2:(a5G s day p b.recalls).length≤100:=by unfold a5G;rw[List.length_map];exact Nat.le_trans (List.length_filter_le _ _) h.c100
 have h3:(a7m b c l day p).length≤100:=by unfold a7m;rw[List.length_map];exact Nat.le_trans (c5l _ _ _ _ _) h.d100
 have h4:(b4d b c s day p).length≤1:=by unfold b4d;split<;>simp
 unfold a2j
 simp only[List.length_append];omega
theorem d2T {b:Bok} {kvs:List (Flt×Value)} {c:List Kind} {l:List Evt} {s:List Part} {day:Int} {p:Part} {ns:List ByteArray} {g:ByteArray→Part} {v:ByteArray} (hok:OkBok b) (hn:ns.length≤12)
  (h:KeysG kvs ((([]++a2j b c l s day p)++ns.flatMap fun n=>a2j b c l s day (g n))++a2K v b.holds)):kvs.length≤1000000:=by
 have h0:=h.len;have h1:=b1x hok c l s day p
 have h2:∀ns:List ByteArray,(ns.flatMap fun n=>a2j b c l s day (g n)).length≤ns.length * 301:=fun ns=>by
  induction ns with
  |nil=>simp
  |cons x ns ih=>
   have:=b1x hok c l s day (g x)
   simp only[List.flatMap_cons,List.length_append,List.length_cons,Nat.add_mul];omega
 have h3:=h2 ns;have h4:(a2K v b.holds).length≤100:=by unfold a2K;rw[List.length_map];exact Nat.le_trans (List.length_filter_le _ _) hok.h100
 simp only[List.length_append,List.length_nil]at h0
 have h5:ns.length * 301≤12 * 301:=Nat.mul_le_mul_right _ hn
 omega
theorem c6M (x:Flt):a6v a4i [x]=[x]:=rfl
def c8m (c:List Kind) (s:List Part) (err:Int) (v:ByteArray):Bool:=
 ((!decide (err=0) || !(a0f s v).isSome)||((a0f s v).getD zPart).scrapped) || !((a7M c ((a0f s v).getD zPart).kind).getD b2Y).vehicle
noncomputable def ofF (f:Fm) (c:List Kind) (b:Bok) (l:List Evt) (v:ByteArray) (day:Int):List Flt:=
 if c8m c (runL f c l day).1 (runL f c l day).2.2 v=true then [⟨4,v,⟨#[]⟩⟩]
 else a6v a4i (a2j b c l (runL f c l day).1 day ((a0f (runL f c l day).1 v).getD zPart)++(d1D (runL f c l day).1 v).flatMap (fun n=>a2j b c l (runL f c l day).1 day ((a0f (runL f c l day).1 n).getD zPart))++a2K v b.holds)
end Go.Sx
set_option linter.all false
namespace Go.Sx
open Go
def b0O (r:Rep):Bool:=!decide (chs r=1)
def b8o (r:Rep):Int:=if b0O r=true then -1 else 0
def b9P (l:List Rep):Int:=(((l.filter b0O).length:Nat):Int)
def b4X (l:List Rep) (i:Nat):List Int:=(l.take i).map b8o++List.replicate (l.length-i) 0
section
variable {l:List Rep} {i:Nat}
theorem b6A (hi:i≤l.length):(b4X l i).length=l.length:=by
 unfold b4X;rw[List.length_append,List.length_map,List.length_take,List.length_replicate,Nat.min_eq_left hi];omega
theorem c3Z:b4X l l.length=l.map b8o:=by simp[b4X]
theorem b3j (h:i<l.length):b4X l (i+1)=(b4X l i).set i (b8o l[i]):=by
 unfold b4X;have e:l.length-i=(l.length-(i+1))+1:=oM;rw[e,List.replicate_succ,←a0c h,List.map_append,List.append_assoc,List.set_append_right _ _ (by rw[List.length_map,List.length_take];omega)];rw[List.length_map,List.length_take,Nat.min_eq_left oM,Nat.sub_self];rfl
theorem c8n (h:i<l.length):(b4X l i)[i]? = some 0:=by
 unfold b4X;rw[List.getElem?_append_right (by rw[List.length_map,List.length_take];omega),List.length_map,List.length_take,Nat.min_eq_left oM,Nat.sub_self,List.getElem?_replicate,if_pos oM]
theorem c4a (h:i<l.length) (hc:b0O l[i]=true):b4X l (i+1)=(b4X l i).set i (-1):=by rw[b3j h,b8o,if_pos hc]
theorem c8o (h:i<l.length) (hc:b0O l[i]=false):b4X l (i+1)=b4X l i:=by
 rw[b3j h,b8o,if_neg (by rw[hc];decide)];refine List.ext_getElem? fun j=>?_
 rw[List.getElem?_set]
 split
 ·rename_i e;subst e;rw[c8n h];split
  ·rfl
  ·rename_i hh;exact absurd (by rw[b6A oM];exact h) hh
 ·rfl
theorem d0a (h:i<l.length) (hc:b0O l[i]=true):b9P (l.take (i+1))=b9P (l.take i)+1:=by
 unfold b9P;rw[←a0c h,List.filter_append,List.length_append,List.filter_cons,if_pos hc];simp
theorem d3f (h:i<l.length) (hc:b0O l[i]=false):b9P (l.take (i+1))=b9P (l.take i):=by
 unfold b9P;rw[←a0c h,List.filter_append,List.length_append,List.filter_cons,if_neg (by rw[hc];decide)];simp
theorem c7L:0≤b9P (l.take i)∧b9P (l.take i)≤i:=by
 unfold b9P;have h1:=List.length_filter_le b0O (l.take i);have h2:=List.length_take_le i l
 omega
end
def d1B (r:Rep) (n:Nat):Int:=(r.options.take n).foldl (fun m e=>min m e.day) 40000
theorem c0A {r:Rep} {n:Nat} (h:n<r.options.length):d1B r (n+1)=min (d1B r n) r.options[n].day:=by
 unfold d1B;rw[←a0c h,List.foldl_append];rfl
def b8x (r:Rep):Int:=d1B r r.options.length
def b0V (l:List Rep) (ch:List Int) (a:Int) (i:Nat):Int:=
 if decide (ch.getD i 0<0)=true∧(decide (a<0)||decide (b8x (l.getD i ⟨[],false⟩)<b8x (l.getD a.toNat ⟨[],false⟩)))=true then (i:Int) else a
def a6J (l:List Rep) (ch:List Int):Nat→Int
 |0=>-1
 |i+1=>b0V l ch (a6J l ch i) i
def a1H (l:List Rep) (ch:List Int):Int:=a6J l ch ch.length
theorem c2P (l:List Rep) (ch:List Int):a6J l ch 0 = -1:=rfl
theorem a7v (l:List Rep) (ch:List Int) (i:Nat):a6J l ch (i+1)=b0V l ch (a6J l ch i) i:=rfl
theorem c6G {l:List Rep} {ch:List Int} {a:Int} {i:Nat} (h : -1≤a∧a<i∧(0≤a→ch.getD a.toNat 0<0)) : -1≤b0V l ch a i∧b0V l ch a i<(i+1:Nat)∧(0≤b0V l ch a i→ch.getD (b0V l ch a i).toNat 0<0):=by
 unfold b0V
 by_cases c:(decide (ch.getD i 0<0)=true∧(decide (a<0)||decide (b8x (l.getD i ⟨[],false⟩)<b8x (l.getD a.toNat ⟨[],false⟩)))=true)
 ·rw[if_pos c];exact⟨oM,oM,fun _=>by simpa using c.1⟩
 ·rw[if_neg c];exact⟨h.1,oM,h.2.2⟩
theorem b6m (l:List Rep) (ch:List Int) (i:Nat) : -1≤a6J l ch i∧a6J l ch i<(i:Nat)∧(0≤a6J l ch i→ch.getD (a6J l ch i).toNat 0<0):=by
 induction i with
 |zero=>rw[c2P];exact⟨oM,oM,fun h=>absurd h oM⟩
 |succ i ih=>rw[a7v];exact c6G ih
section
variable {l:List Rep} {ch:List Int} {i:Nat}
theorem a8B (hlt:i<l.length):l.getD i ⟨[],false⟩=l[i]:=by rw[List.getD_eq_getElem?_getD,List.getElem?_eq_getElem hlt];rfl
theorem c6H (hlt:i<ch.length):ch.getD i 0=ch[i]:=by rw[List.getD_eq_getElem?_getD,List.getElem?_eq_getElem hlt];rfl
theorem d4a {hlt:i<l.length} {hlc:i<ch.length} (h:(decide (ch[i]<0)&&(decide (a6J l ch i<0)||decide (b8x l[i]<b8x (l.getD (a6J l ch i).toNat ⟨[],false⟩))))=true):a6J l ch (i+1)=i:=by
 rw[Bool.and_eq_true]at h
 rw[a7v,b0V,a8B hlt,c6H hlc,if_pos h]
theorem d6m {hlt:i<l.length} {hlc:i<ch.length} (h:(decide (ch[i]<0)&&(decide (a6J l ch i<0)||decide (b8x l[i]<b8x (l.getD (a6J l ch i).toNat ⟨[],false⟩))))=false):a6J l ch (i+1)=a6J l ch i:=by
 rw[a7v,b0V,a8B hlt,c6H hlc,if_neg (fun hh=>by rw[←Bool.and_eq_true,h]at hh;exact Bool.false_ne_true hh)]
theorem d4Q (h:decide (a6J l ch i<0)=false) (hi:i≤l.length):(a6J l ch i).toNat<l.length∧a6J l ch i=((a6J l ch i).toNat:Nat):=by
 have:=b6m l ch i;rw[decide_eq_false_iff_not]at h
 omega
end
def b0L (ch:List Int):List (List Value):=ch.map fun x=>[ci x]
theorem c4Y (ch:List Int):Uk 1 (b0L ch):=fun c hc=>by obtain⟨e,_,rfl⟩:=List.mem_map.1 hc;rfl
theorem a7a (ch:List Int):(b0L ch).length=ch.length:=by simp[b0L]
theorem b8M (ch:List Int):(b0L ch).flatten=a6m ch:=by
 induction ch with
 |nil=>rfl
 |cons x l ih=>show [ci x]++(b0L l).flatten=_;rw[ih];try rfl
theorem c4X {I:IMap} {xss:List (List Value)} {l:List Int} (h:FlatC I xss l):xss=b0L l:=by
 induction h with
 |nil=>rfl
 |cons h1 _ ih=>rw[ih];simp only[b0L,List.map_cons];rw[show _=_ from h1]
theorem b8L {ch:List Int} {z:List (List Value)} (h:z.length=ch.length):(z.take 0++(b0L ch++z.drop (0+(b0L ch).length))).flatten=a6m ch:=by
 rw[a7a,Nat.zero_add,List.drop_eq_nil_of_le oM,List.append_nil,List.take_zero,List.nil_append,b8M]
def a2o (c:List Kind) (l:List Rep):Nat→List Int→Fm
 |0,ch=>if a2Q c l ch=true then .mk 2 0 [] else .mk 3 0 []
 |n+1,ch=>if a2Q c l ch=true then .mk 2 0 [] else
  if a1H l ch<0 then .mk 3 0 [] else
  .mk 1 (a1H l ch) ((List.range (chs (l.getD (a1H l ch).toNat ⟨[],false⟩)).toNat:List Nat).map fun k:Nat=>a2o c l n (ch.set (a1H l ch).toNat (k:Int)))
end Go.Sx
set_option linter.all false
namespace Go.Sx
open Go
def b1t (ch:List Int):Nat:=(ch.filter fun x=>decide (x<0)).length
theorem a7T:∀{ch:List Int} {a:Nat} {k:Int},(h:a<ch.length)→ch[a]<0→0≤k→b1t (ch.set a k)+1=b1t ch
 |x::ch,0,k,h,h1,h2=>by
  have h1':x<0:=h1
  show b1t (k::ch)+1=b1t (x::ch)
  unfold b1t;rw[List.filter_cons_of_neg (by simp;omega),List.filter_cons_of_pos (by simpa using h1')];rfl
 |x::ch,a+1,k,h,h1,h2=>by
  have ih:=a7T (ch:=ch) (a:=a) (k:=k) (by simpa using h) (by simpa using h1) h2
  show b1t (x::ch.set a k)+1=b1t (x::ch)
  unfold b1t at ih ⊢
  by_cases hx:x<0
  ·rw[List.filter_cons_of_pos (by simpa using hx),List.filter_cons_of_pos (by simpa using hx),List.length_cons,List.length_cons,ih]
  ·rw[List.filter_cons_of_neg (by simpa using hx),List.filter_cons_of_neg (by simpa using hx),ih]
theorem c5y {ch:List Int} {a:Nat} (h:b1t ch=0) (ha:a<ch.length):¬ch[a]<0:=fun hh=>by
 have:ch[a]∈ch.filter fun x=>decide (x<0):=List.mem_filter.2 ⟨List.getElem_mem ha,by simpa using hh⟩
 rw[List.eq_nil_of_length_eq_zero h]at this;cases this
section
variable {c:List Kind} {l:List Rep} {ch:List Int} {n a:Nat}
def a3L (c:List Kind) (l:List Rep) (n:Nat) (ch:List Int) (a:Nat):List Fm:=(List.range (chs (l.getD a ⟨[],false⟩)).toNat).map fun k:Nat=>a2o c l n (ch.set a (k:Int))
theorem b7U (h:¬a1H l ch<0) (hlc:ch.length=l.length):∃a:Nat,a1H l ch=a∧∃(ha:a<l.length) (hb:a<ch.length),ch[a]<0:=by
 have h1:=b6m l ch ch.length;refine⟨(a1H l ch).toNat,by unfold a1H at *;omega,by unfold a1H at *;omega,by unfold a1H at *;omega,?_⟩;have h2:=h1.2.2 (by unfold a1H at h;omega);rw[c6H (by unfold a1H at *;omega)]at h2
 exact h2
theorem a4f (h:a2Q c l ch=true):a2o c l n ch = .mk 2 0 []:=by cases n<;>(unfold a2o;rw[if_pos h])
theorem a4g (h:a2Q c l ch=false) (h2:a1H l ch<0):a2o c l n ch = .mk 3 0 []:=by
 cases n with
 |zero=>unfold a2o;rw[if_neg (by rw[h];decide)]
 |succ n=>unfold a2o;rw[if_neg (by rw[h];decide),if_pos h2]
theorem a2s (h:a2Q c l ch=false) (h2:a1H l ch=(a:Nat)):a2o c l (n+1) ch = .mk 1 (a:Int) (a3L c l n ch a):=by
 conv=>lhs;unfold a2o
 rw[if_neg (by rw[h];decide),if_neg oM,h2];rfl
theorem a9J (hs:0≤chs (l.getD a ⟨[],false⟩)):((a3L c l n ch a).length:Int)=chs (l.getD a ⟨[],false⟩):=by
 unfold a3L;rw[List.length_map,List.length_range];omega
theorem a3y {k:Nat} (hk:k<(a3L c l n ch a).length):(a3L c l n ch a)[k]=a2o c l n (ch.set a (k:Int)):=by simp[a3L]
theorem a9r (x y:List Fm):cntNL (x++y)=cntNL x+cntNL y:=by
 induction x with
 |nil=>simp[cntNL]
 |cons f x ih=>simp only[List.cons_append,cntNL,ih];omega
theorem a4T {ks:List Fm} {k:Nat} (hk:k<ks.length):cntNL (ks.take (k+1))=cntNL (ks.take k)+cntN ks[k]:=by
 rw[←a0c hk,a9r];simp[cntNL]
theorem c4h {ks:List Fm} {k:Nat} (hk:k<ks.length):cntNL (ks.take k)+cntN ks[k]≤cntNL ks:=by
 rw[←a4T hk];have:=a9r (ks.take (k+1)) (ks.drop (k+1));rw[List.take_append_drop]at this;omega
theorem b3p {o m:Int}:((cntN (.mk o m []):Nat):Int)=1:=by simp[cntN,cntNL]
theorem c4i (f:Fm):1≤cntN f:=by cases f;simp[cntN]
theorem c1P {m:Int} {k:Nat}:m-1-(k:Int)=m-((k+1:Nat):Int):=oM
theorem b8s {ks:List Fm} {m:Int}:m-((cntNL (List.take 0 ks):Nat):Int)=m:=by simp[cntNL]
theorem a7k {m:Int} {x y:Nat}:m-1-((x+y:Nat):Int)=m-1-(x:Int)-(y:Int):=oM
theorem b5a {o m:Int} {ks:List Fm}:cntN (.mk o m ks)=cntNL ks+1:=by simp[cntN]
end
end Go.Sx
set_option linter.all false
namespace Go.Sx
open Go
mutual
def wmS {σ:Type} (out:σ→Fm→Bool) (nx:σ→Fm→σ):Fm→σ→Bool×σ
 |.mk op n ks,s=>if out s (.mk op n ks)=true then wmL out nx ks (nx s (.mk op n ks)) else (false,nx s (.mk op n ks))
def wmL {σ:Type} (out:σ→Fm→Bool) (nx:σ→Fm→σ):List Fm→σ→Bool×σ
 | [],s=>(true,s)
 |k::ks,s=>if (wmS out nx k s).1=true then wmL out nx ks (wmS out nx k s).2 else (false,(wmS out nx k s).2)
end
section
variable {σ:Type} {out:σ→Fm→Bool} {nx:σ→Fm→σ}
def wmF (out:σ→Fm→Bool) (nx:σ→Fm→σ) (s:σ) (k:Fm):Bool×σ:=(!(wmS out nx k s).1,(wmS out nx k s).2)
theorem b8i:∀(ks:List Fm) (s:σ) (i:Nat),(wmL out nx ks s).1 = !decide (0≤(a2z (wmF out nx) s ks i).1)∧(wmL out nx ks s).2=(a2z (wmF out nx) s ks i).2
 | [],s,i=>by simp[wmL,a2z]
 |k::ks,s,i=>by
  have ih:=b8i ks (wmS out nx k s).2 (i+1)
  by_cases h:(wmS out nx k s).1=true
  ·simp only[wmL,a2z,wmF,h,if_true,Bool.not_true,Bool.false_eq_true,if_false]
   exact ih
  ·have h':(wmS out nx k s).1=false:=by simpa using h
   simp only[wmL,a2z,wmF,h',Bool.false_eq_true,if_false,Bool.not_false,if_true]
   exact⟨by simp,trivial⟩
theorem c8b {x:Fm} {s:σ} (h:out s x=false):wmS out nx x s=(false,nx s x):=by
 cases x;simp only[wmS,h,Bool.false_eq_true,if_false]
theorem c3G {x:Fm} {s:σ} (h:out s x=true):wmS out nx x s=(!decide (0≤(a2z (wmF out nx) (nx s x) x.kids 0).1),(a2z (wmF out nx) (nx s x) x.kids 0).2):=by
 have e:wmS out nx x s=wmL out nx x.kids (nx s x):=by cases x;simp only[wmS,h,if_true];rfl
 have h2:=b8i (out:=out) (nx:=nx) x.kids (nx s x) 0;rw[e];exact Prod.ext h2.1 h2.2
end
mutual
def allM (p:Fm→Bool):Fm→Bool
 |.mk op n ks=>p (.mk op n ks)&&allML p ks
def allML (p:Fm→Bool):List Fm→Bool
 | []=>true
 |k::ks=>allM p k&&allML p ks
end
mutual
theorem wm_all (p:Fm→Bool):∀(x:Fm) (s:Unit),(wmS (fun _ x=>p x) (fun s _=>s) x s).1=allM p x
 |.mk op n ks,s=>by
  simp only[wmS,allM]
  split
  ·rename_i h;rw[h,Bool.true_and];exact wm_allL p ks s
  ·rename_i h;simp at h;simp[h]
theorem wm_allL (p:Fm→Bool):∀(ks:List Fm) (s:Unit),(wmL (fun _ x=>p x) (fun s _=>s) ks s).1=allML p ks
 | [],s=>by simp[wmL,allML]
 |k::ks,s=>by
  simp only[wmL,allML]
  split
  ·rename_i h
   have h1:=wm_all p k s;rw[h]at h1
   rw[←h1,Bool.true_and];exact wm_allL p ks _
  ·rename_i h
   have h1:=wm_all p k s;have h:(wmS (fun _ x=>p x) (fun s _=>s) k s).1=false:=by simpa using h
   rw[h]at h1
   rw[←h1];rfl
end
def smN (n:Int) (_:Fm):Int:=IntKind.i64.wrap (n+1)
def smO (n:Int) (_:Fm):Bool:=decide (IntKind.i64.wrap (n+1)≤4096)
theorem d6k {n:Int} {x:Fm} (h0:0≤n) (h1:n<4096):smN n x=n+1∧smO n x=true:=by
 have e:IntKind.i64.wrap (n+1)=n+1:=by rw[IntKind.wrap_i64];omega
 unfold smN smO;rw[e];exact⟨rfl,decide_eq_true oM⟩
mutual
theorem wm_size:∀(x:Fm) (n:Int),0≤n→n+cntN x≤4096→wmS smO smN x n=(true,n+cntN x)
 |.mk op m ks,n,h0,h1=>by
  simp only[cntN]at h1
  obtain⟨e1,e2⟩:=d6k (x:=.mk op m ks) h0 oM
  simp only[wmS,cntN,e1,e2,if_true]
  rw[wm_sizeL ks (n+1) oM oM];exact Prod.ext rfl (by show _=_;omega)
theorem wm_sizeL:∀(ks:List Fm) (n:Int),0≤n→n+cntNL ks≤4096→wmL smO smN ks n=(true,n+cntNL ks)
 | [],n,h0,h1=>by simp[wmL,cntNL]
 |k::ks,n,h0,h1=>by
  simp only[cntNL]at h1
  simp only[wmL,cntNL]
  rw[wm_size k n h0 oM]
  simp only[if_true]
  rw[wm_sizeL ks _ oM oM];exact Prod.ext rfl (by show _=_;omega)
end
def d4P (x:Fm):Int:=(wmS smO smN x 0).2
theorem d0S {x:Fm} (h:cntN x≤4096):d4P x=cntN x:=by
 unfold d4P;rw[wm_size x 0 (Int.le_refl _) oM];show 0+_=_;omega
def prN (x:Fm):Bool:=
 if x.op=1 then (((decide (x.n≥0)&&decide (x.n<5000))&&decide ((x.kids.length:Int)>1))&&decide ((x.kids.length:Int)≤5))
 else if x.op=2∨x.op=3 then decide (x.n=0)&&decide ((x.kids.length:Int)=0) else false
theorem c2l {x:Fm} (h:x.op=1):prN x=(((decide (x.n≥0)&&decide (x.n<5000))&&decide ((x.kids.length:Int)>1))&&decide ((x.kids.length:Int)≤5)):=by unfold prN;rw[if_pos h]
theorem d3r {x:Fm} (h:¬x.op=1) (h2:x.op=2∨x.op=3):prN x=(decide (x.n=0)&&decide ((x.kids.length:Int)=0)):=by unfold prN;rw[if_neg h,if_pos h2]
theorem d3s {x:Fm} (h:¬x.op=1) (h2:¬(x.op=2∨x.op=3)):prN x=false:=by unfold prN;rw[if_neg h,if_neg h2]
def c2p (x:Fm):Bool:=decide (d4P x≤4096)&&allM prN x
structure Opn (l:List Rep) (ch:List Int):Prop where
 len:ch.length=l.length
 neg:∀i (h1:i<l.length) (h2:i<ch.length),ch[i]<0→ch[i] = -1∧1<chs l[i]
 pos:∀i (h1:i<l.length) (h2:i<ch.length),0≤ch[i]→ch[i]<chs l[i]
theorem Opn.set {l:List Rep} {ch:List Int} (h:Opn l ch) {a:Nat} (ha:a<l.length) {k:Int} (hk:0≤k) (hc:k<chs l[a]):Opn l (ch.set a k):=by
 refine⟨by rw[List.length_set];exact h.len,fun i h1 h2 hn=>?_,fun i h1 h2 hn=>?_⟩
 ·rw[List.getElem_set]at hn ⊢
  split at hn
  ·omega
  ·rename_i hne;rw[if_neg hne];exact h.neg i h1 _ hn
 ·rw[List.getElem_set]at hn ⊢
  split
  ·rename_i e;subst e;exact hc
  ·rename_i hne;rw[if_neg hne]at hn;exact h.pos i h1 _ hn
theorem Opn.beg {l:List Rep} (h:∀r∈l,a0l r=true):Opn l (l.map b8o):=by
 refine⟨List.length_map _,fun i h1 h2 hn=>?_,fun i h1 h2 hn=>?_⟩
 all_goals
  rw[List.getElem_map]at hn ⊢
  have hp:=b1W (h l[i] (List.getElem_mem h1));unfold b8o b0O at hn ⊢
  split at hn
  ·rename_i ho
   simp only[Bool.not_eq_true',decide_eq_false_iff_not]at ho
   first
    |(rw[if_pos (by simpa using ho)];exact⟨rfl,oM⟩)
    |omega
  ·rename_i ho
   first
    |omega
    |(rw[if_neg ho];omega)
section
variable {c:List Kind} {l:List Rep} {ch:List Int} {n a:Nat}
theorem a4Y (ho:Opn l ch) (h:¬a1H l ch<0):∃a:Nat,a1H l ch=a∧∃(ha:a<l.length) (hb:a<ch.length),ch[a]<0∧1<chs l[a]:=by
 obtain⟨a,e,ha,hb,hn⟩:=b7U h ho.len;exact⟨a,e,ha,hb,hn,(ho.neg a ha hb hn).2⟩
theorem c6K (ho:Opn l ch) (h:a1H l ch<0):∀x∈ch,0≤x:=by
 have key:∀i,i≤ch.length→a6J l ch i<0→∀j (hj:j<ch.length),j<i→0≤ch[j]:=by
  intro i
  induction i with
  |zero=>intro _ _ j _ h;omega
  |succ i ih=>
   intro hi hs j hj hji;have hlt:i<ch.length:=oM;rw[a7v,b0V]at hs
   split at hs
   ·omega
   ·rename_i hc
    have h2:=ih oM hs
    rcases Nat.lt_or_ge j i with h3|h3
    ·exact h2 j hj h3
    ·obtain rfl:j=i:=oM
     rcases Int.lt_or_le ch[j] 0 with h4|h4
     ·refine absurd ⟨?_,?_⟩ hc
      ·rw[c6H hlt];exact decide_eq_true h4
      ·rw[Bool.or_eq_true];exact .inl (decide_eq_true hs)
     ·exact h4
 intro x hx;obtain⟨j,hj,rfl⟩:=List.getElem_of_mem hx;exact key ch.length (Nat.le_refl _) h j hj hj
theorem b3c {p:Fm→Bool}:∀{ks:List Fm},allML p ks=true↔∀k∈ks,allM p k=true
 | []=>by simp[allML]
 |k::ks=>by simp[allML,b3c (ks:=ks)]
theorem c3j (ho:Opn l ch) (hl:l.length≤5000):∀n ch,Opn l ch→allM prN (a2o c l n ch)=true:=by
 intro n
 induction n with
 |zero=>
  intro ch ho;unfold a2o
  split<;>rfl
 |succ n ih=>
  intro ch ho
  cases hf:a2Q c l ch with
  |true=>rw[a4f hf];rfl
  |false=>
   by_cases hs:a1H l ch<0
   ·rw[a4g hf hs];rfl
   ·obtain⟨a,e,ha,hb,hn,hc⟩:=a4Y ho hs;rw[a2s hf e];have hk:=a9J (c:=c) (l:=l) (n:=n) (ch:=ch) (a:=a) (by rw[a8B ha];omega);rw[a8B ha]at hk
    have h5:=a8D l[a];rw[allM,Bool.and_eq_true];refine⟨?_,b3c.2 fun k hk=>?_⟩
    ·rw[c2l rfl]
     simp only[Bool.and_eq_true,decide_eq_true_eq]
     refine⟨⟨⟨?_,?_⟩,?_⟩,?_⟩
     ·show (a:Int)≥0;omega
     ·show (a:Int)<5000;omega
     ·show ((a3L c l n ch a).length:Int)>1;omega
     ·show ((a3L c l n ch a).length:Int)≤5;omega
    ·obtain⟨j,hj,rfl⟩:=List.mem_map.1 hk;have hj:=List.mem_range.1 hj;rw[a8B ha]at hj
     exact ih _ (ho.set ha oM oM)
def a2w (c:List Kind) (l:List Rep):Nat→List Int→List (List Int)
 |0,ch=>if a2Q c l ch=true then [] else [ch]
 |n+1,ch=>if a2Q c l ch=true then [] else if a1H l ch<0 then [ch] else
  (List.range (chs (l.getD (a1H l ch).toNat ⟨[],false⟩)).toNat).flatMap fun k:Nat=>a2w c l n (ch.set (a1H l ch).toNat (k:Int))
def a7d (c:List Kind) (l:List Rep) (n:Nat) (ch:List Int) (a:Nat) (k:Nat):List (List Int):=(List.range k).flatMap fun k:Nat=>a2w c l n (ch.set a (k:Int))
theorem b1f (h:a2Q c l ch=true):a2w c l n ch=[]:=by cases n<;>(unfold a2w;rw[if_pos h])
theorem b1g (h:a2Q c l ch=false) (h2:a1H l ch<0):a2w c l n ch=[ch]:=by
 cases n with
 |zero=>unfold a2w;rw[if_neg (by rw[h];decide)]
 |succ n=>unfold a2w;rw[if_neg (by rw[h];decide),if_pos h2]
theorem b1h (h:a2Q c l ch=false) (h2:a1H l ch=(a:Nat)):a2w c l (n+1) ch=a7d c l n ch a (chs (l.getD a ⟨[],false⟩)).toNat:=by
 conv=>lhs;unfold a2w
 rw[if_neg (by rw[h];decide),if_neg oM,h2];rfl
theorem b1n:a7d c l n ch a 0=[]:=rfl
theorem a5X (k:Nat):a7d c l n ch a (k+1)=a7d c l n ch a k++a2w c l n (ch.set a (k:Int)):=by
 unfold a7d;rw[List.range_succ,List.flatMap_append];simp
theorem d4g (ho:Opn l ch) (hn:b1t ch≤n) (h:(a2o c l n ch).op=2):a2w c l n ch=[]:=by
 cases hf:a2Q c l ch with
 |true=>exact b1f hf
 |false=>
  by_cases hs:a1H l ch<0
  ·rw[a4g hf hs]at h;exact absurd h (by decide)
  ·obtain⟨a,e,ha,hb,hna,hca⟩:=a4Y ho hs
   cases n with
   |zero=>have:=a7T (k:=0) hb hna (Int.le_refl 0);omega
   |succ n=>rw[a2s hf e]at h;exact absurd h (show ¬(1:Int)=2 by decide)
theorem d4h (ho:Opn l ch) (hn:b1t ch≤n) (h:(a2o c l n ch).op=3):a2w c l n ch=[ch]∧∀x∈ch,0≤x:=by
 cases hf:a2Q c l ch with
 |true=>rw[a4f hf]at h;exact absurd h (show ¬(2:Int)=3 by decide)
 |false=>
  by_cases hs:a1H l ch<0
  ·exact⟨b1g hf hs,c6K ho hs⟩
  ·obtain⟨a,e,ha,hb,hna,hca⟩:=a4Y ho hs
   cases n with
   |zero=>have:=a7T (k:=0) hb hna (Int.le_refl 0);omega
   |succ n=>rw[a2s hf e]at h;exact absurd h (show ¬(1:Int)=3 by decide)
theorem d4f {N:Nat} (ho:Opn l ch) (hn:b1t ch≤N) (h2:¬(a2o c l N ch).op=2) (h3:¬(a2o c l N ch).op=3) :
  ∃n a,N=n+1∧∃(ha:a<l.length) (hb:a<ch.length),ch[a]<0∧1<chs l[a]∧(a2o c l N ch).n=(a:Int)∧(a2o c l N ch).kids=a3L c l n ch a∧((a3L c l n ch a).length:Int)=chs l[a]∧a2w c l N ch=a7d c l n ch a (a3L c l n ch a).length:=by
 cases hf:a2Q c l ch with
 |true=>rw[a4f hf]at h2;exact absurd rfl h2
 |false=>
  by_cases hs:a1H l ch<0
  ·rw[a4g hf hs]at h3;exact absurd rfl h3
  ·obtain⟨a,e,ha,hb,hna,hca⟩:=a4Y ho hs
   cases N with
   |zero=>have:=a7T (k:=0) hb hna (Int.le_refl 0);omega
   |succ n=>
    have hk:=a9J (c:=c) (l:=l) (n:=n) (ch:=ch) (a:=a) (by rw[a8B ha];omega);rw[a8B ha]at hk
    refine⟨n,a,rfl,ha,hb,hna,hca,?_,?_,hk,?_⟩
    ·rw[a2s hf e];rfl
    ·rw[a2s hf e];rfl
    ·rw[b1h hf e,a8B ha,←hk];rfl
theorem c5h {k m:Nat} (h:k≤m):(a7d c l n ch a k).length≤(a7d c l n ch a m).length:=by
  induction m with
  | zero => obtain rfl : k = 0 := oM
            exact Nat.le_refl _
  |succ m ih=>
    rcases Nat.lt_or_ge k (m+1) with h1|h1
    · rw[a5X,List.length_append];have:=ih oM;omega
    · obtain rfl:k=m+1:=oM
      exact Nat.le_refl _
end
end Go.Sx
set_option linter.all false
namespace Go.Sx
open Go
def a5d:List Rep→List Int→Nat
 |r::l,x::ch=>(if x<0 then (chs r).toNat else 1) * a5d l ch
 |_,_=>1
theorem a4t:∀{l:List Rep} {ch:List Int} {a:Nat} {k:Int} (ha:a<l.length) (hb:a<ch.length),ch[a]<0→0≤k→a5d l ch=(chs l[a]).toNat * a5d l (ch.set a k)
 |r::l,x::ch,0,k,ha,hb,h1,h2=>by
  have h1:x<0:=h1
  show (if x<0 then (chs r).toNat else 1) * a5d l ch=(chs r).toNat * ((if k<0 then (chs r).toNat else 1) * a5d l ch)
  rw[if_pos h1,if_neg oM,Nat.one_mul]
 |r::l,x::ch,a+1,k,ha,hb,h1,h2=>by
  have ih:=a4t (l:=l) (ch:=ch) (a:=a) (k:=k) (by simpa using ha) (by simpa using hb) (by simpa using h1) h2
  show (if x<0 then (chs r).toNat else 1) * a5d l ch=(chs (l[a]'(by simpa using ha))).toNat * ((if x<0 then (chs r).toNat else 1) * a5d l (ch.set a k))
  rw[ih,Nat.mul_left_comm]
theorem a5e:∀{l:List Rep} {ch:List Int},(∀r∈l,chs r≠0)→1≤a5d l ch
 | [],_,_=>Nat.le_refl _
 |r::l,[],_=>Nat.le_refl _
 |r::l,x::ch,h=>by
  have ih:=a5e (l:=l) (ch:=ch) fun q hq=>h q (List.mem_cons_of_mem _ hq)
  have h1:chs r≠0:=h r (List.mem_cons_self ..);have h2:0≤chs r:=b0Z r;have h3:1≤(if x<0 then (chs r).toNat else 1):=by split<;>omega
  show 1≤_ * _
  exact Nat.mul_le_mul h3 ih
theorem b0v:∀{l:List Rep},(∀r∈l,chs r≠0)→a5d l (l.map b8o)=a4d l
 | [],_=>rfl
 |r::l,h=>by
  have ih:=b0v (l:=l) fun q hq=>h q (List.mem_cons_of_mem _ hq)
  have h1:chs r≠0:=h r (List.mem_cons_self ..);have h2:0≤chs r:=b0Z r
  show (if b8o r<0 then (chs r).toNat else 1) * a5d l (l.map b8o)=(chs r).toNat * a4d l
  rw[ih];unfold b8o b0O
  by_cases he:chs r=1
  ·simp[he]
  ·simp[he]
section
variable {c:List Kind} {l:List Rep} {ch:List Int} {n a:Nat}
theorem c0t {m b:Nat} {g:Nat→Fm} (h:∀k,k<m→cntN (g k)≤b):cntNL ((List.range m).map g)≤m * b:=by
 induction m with
 |zero=>simp[cntNL]
 |succ m ih=>
  rw[List.range_succ,List.map_append,a9r];have h1:=ih fun k hk=>h k oM
  have h2:=h m oM
  simp only[List.map_cons,List.map_nil,cntNL,Nat.add_mul];omega
theorem c6T (hp:∀r∈l,chs r≠0):∀n ch,Opn l ch→cntN (a2o c l n ch)+1≤2 * a5d l ch:=by
 intro n
 induction n with
 |zero=>
  intro ch ho;have:=a5e (ch:=ch) hp;unfold a2o
  split<;>(simp[cntN,cntNL];omega)
 |succ n ih=>
  intro ch ho;have h1:=a5e (ch:=ch) hp
  cases hf:a2Q c l ch with
  |true=>rw[a4f hf];simp[cntN,cntNL];omega
  |false=>
   by_cases hs:a1H l ch<0
   ·rw[a4g hf hs];simp[cntN,cntNL];omega
   ·obtain⟨a,e,ha,hb,hn,hc⟩:=a4Y ho hs;rw[a2s hf e,b5a,a3L,a8B ha,a4t ha hb hn (Int.le_refl 0)]
    have hk:∀k,k<(chs l[a]).toNat→cntN (a2o c l n (ch.set a (k:Int)))≤2 * a5d l (ch.set a 0)-1:=fun k hk=>by
     have h2:=ih _ (ho.set ha (k:=(k:Int)) oM oM);have h3:=a4t ha hb hn (Int.le_refl 0);rw[a4t ha hb hn (show (0:Int)≤(k:Int) from oM)]at h3
     have h4:a5d l (ch.set a (k:Int))=a5d l (ch.set a 0):=Nat.eq_of_mul_eq_mul_left oM h3
     omega
    have h5:=c0t hk;have h6:=a5e (ch:=ch.set a 0) hp;have h7:2≤(chs l[a]).toNat:=oM
    generalize (chs l[a]).toNat=m at *
    generalize a5d l (ch.set a 0)=W at *
    have h8:m * (2 * W-1)+m=2 * (m * W):=by
     rw[←Nat.mul_succ,Nat.succ_eq_add_one,Nat.sub_add_cancel oM,Nat.mul_left_comm]
    omega
end
def d1z (l:List Rep):List Int:=l.map b8o
def a5x (c:List Kind) (l:List Rep):Fm:=a2o c l (b1t (d1z l)) (d1z l)
def a3l (c:List Kind) (l:List Rep):List (List Int):=a2w c l (b1t (d1z l)) (d1z l)
theorem c3i {c:List Kind} {l:List Rep} (hv:∀r∈l,a0l r=true):cntN (a5x c l)+1≤2 * a4d l:=by
 have hp:∀r∈l,chs r≠0:=fun r hr=>by have:=b1W (hv r hr);omega
 rw[←b0v hp];exact c6T hp _ _ (Opn.beg hv)
theorem c0M {α β:Type} {l:List α} {f:α→β} {i:Nat} (h:i<l.length):(l.map f).take i++[f l[i]]=(l.map f).take (i+1):=by
 rw[←a0c (l:=l.map f) (i:=i) (by rw[List.length_map];exact h),List.getElem_map]
theorem d2q {α β:Type} {l:List α} {f:α→β}:(l.map f).take l.length=l.map f:=List.take_of_length_le (by rw[List.length_map];exact Nat.le_refl _)
theorem b6u {l:List Rep} (hva:(l.any fun r=>!a0l r)=false):∀r∈l,a0l r=true:=fun r hr=>by
 have:=List.any_eq_false.1 hva r hr
 simpa using this
theorem b6r {c:List Kind} {l:List Rep} (hva:(l.any fun r=>!a0l r)=false) (hl:l.length≤5000) (h96:cntN (a5x c l)≤4096):c2p (a5x c l)=true:=by
 unfold c2p;rw[d0S h96,Bool.and_eq_true];exact⟨decide_eq_true oM,c3j (Opn.beg (b6u hva)) hl _ _ (Opn.beg (b6u hva))⟩
section
variable {c:List Kind} {l:List Rep} {ch:List Int} {n a:Nat}
theorem c4x (hp:∀r∈l,chs r≠0):∀n ch,Opn l ch→(a2w c l n ch).length≤a5d l ch:=by
 intro n
 induction n with
 |zero=>
  intro ch ho;have:=a5e (ch:=ch) hp;unfold a2w
  split<;>(simp;try omega)
 |succ n ih=>
  intro ch ho;have h1:=a5e (ch:=ch) hp
  cases hf:a2Q c l ch with
  |true=>rw[b1f hf];simp
  |false=>
   by_cases hs:a1H l ch<0
   ·rw[b1g hf hs];simpa using h1
   ·obtain⟨a,e,ha,hb,hn,hc⟩:=a4Y ho hs;rw[b1h hf e,a7d,a8B ha,a4t ha hb hn (Int.le_refl 0)]
    have hk:∀k,k<(chs l[a]).toNat→(a2w c l n (ch.set a (k:Int))).length≤a5d l (ch.set a 0):=fun k hk=>by
     have h2:=ih _ (ho.set ha (k:=(k:Int)) oM oM);have h3:=a4t ha hb hn (Int.le_refl 0);rw[a4t ha hb hn (show (0:Int)≤(k:Int) from oM)]at h3
     have h4:a5d l (ch.set a (k:Int))=a5d l (ch.set a 0):=Nat.eq_of_mul_eq_mul_left oM h3
     omega
    have key:∀m,m≤(chs l[a]).toNat→((List.range m).flatMap fun k:Nat=>a2w c l n (ch.set a (k:Int))).length≤m * a5d l (ch.set a 0):=by
     intro m
     induction m with
     |zero=>intro _;simp
     |succ m ihm=>
      intro hm;rw[List.range_succ,List.flatMap_append,List.length_append,Nat.add_mul];have h5:=ihm oM;have h6:=hk m oM
      simp only[List.flatMap_cons,List.flatMap_nil,List.append_nil];omega
    exact key _ (Nat.le_refl _)
theorem c0P (hv:∀r∈l,a0l r=true):(a3l c l).length≤a4d l:=by
 have hp:∀r∈l,chs r≠0:=fun r hr=>by have:=b1W (hv r hr);omega
 rw[←b0v hp];exact c4x hp _ _ (Opn.beg hv)
theorem c5L {R:Nat→Nat} {p:ByteArray}:(a3V l R p).Sublist l:=by
 unfold a3V ofN
 split
 ·exact c5R 0 _
 ·exact List.nil_sublist _
theorem b7C {R:Nat→Nat} {p:ByteArray} (hv:∀r∈l,a0l r=true):a4d (a3V l R p)≤a4d l:=by
 have hp:∀r∈l,chs r≠0:=fun r hr=>by have:=b1W (hv r hr);omega
 exact c7f c5L hp
end
theorem b3n (x:Int):(ci x).oneCell'=true:=rfl
theorem c1M:(Value.slice none 0 0).oneCell'=true:=rfl
structure Vdt where
 kind:Int
 proof:Fm
 hist:List Int
 faults:List Flt
def Vdt.cs (v:Vdt) (k h f:Value):List Value:=[ci v.kind,ci v.proof.op,ci v.proof.n,k,h,f]
structure VdRd (I:IMap) (k h f:Value) (v:Vdt):Prop where
 k:RdS I k v.proof.kids
 h:RdS I h v.hist
 f:RdS I f v.faults
theorem VdRd.le {I I':IMap} {k h f:Value} {v:Vdt} (x:VdRd I k h f v) (hI:ILe I I'):VdRd I' k h f v:=⟨x.k.le hI,x.h.le hI,x.f.le hI⟩
theorem VdRd.one {I:IMap} {k h f:Value} {v:Vdt} (x:VdRd I k h f v):(v.cs k h f).all (·.oneCell')=true:=by simp[Vdt.cs,x.k.one,x.h.one,x.f.one,b3n]
instance:Enc Vdt where
 k:=6
 rd I vs v:=∃k h f,vs=v.cs k h f∧VdRd I k h f v
 len h:=by obtain⟨_,_,_,rfl,_⟩:=h;rfl
 mono hI h:=by obtain⟨a,b,c,rfl,h⟩:=h;exact⟨a,b,c,rfl,h.le hI⟩
 one h:=by obtain⟨_,_,_,rfl,h⟩:=h;exact h.one
def d3c:Fm:=.mk 0 0 []
def b2V:Vdt:=⟨4,d3c,[],[]⟩
def c4s (p:Fm) (eds:List (List Int)) (fts:List Int→List Flt):Vdt:=
 match eds.find? fun t=>!(fts t).isEmpty with
 |some t=>⟨2,d3c,t,fts t⟩
 |none=>⟨if eds.isEmpty=true then 3 else 1,p,[],[]⟩
noncomputable def ftsF (f:Fm) (c:List Kind) (b:Bok) (own:List Rep) (vn:ByteArray) (day:Int) (t:List Int):List Flt:=ofF f c b (a2f own t).1 vn day
noncomputable def decR (f:Fm) (c:List Kind) (b:Bok) (l own:List Rep) (vn:ByteArray) (day:Int):Vdt:=
 if (!decide ((runL f c [] 0).2.2=0)||l.any fun r=>!a0l r)=true then b2V else c4s (a5x c own) (a3l c own) (ftsF f c b own vn day)
section
variable {p:Fm} {eds pre:List (List Int)} {fts:List Int→List Flt} {t:List Int}
def d6v (fts:List Int→List Flt) (pre:List (List Int)):Prop:=∀t∈pre,fts t=[]
theorem b8y (h:d6v fts eds):c4s p eds fts=⟨if eds.isEmpty=true then 3 else 1,p,[],[]⟩:=by
 unfold c4s;rw[List.find?_eq_none.2 fun t ht=>by rw[h t ht];simp]
theorem c4t {rest:List (List Int)} (h:d6v fts pre) (hf:fts t≠[]) (he:eds=pre++t::rest):c4s p eds fts=⟨2,d3c,t,fts t⟩:=by
 unfold c4s
 have e:eds.find? (fun t=>!(fts t).isEmpty)=some t:=by
  rw[he,List.find?_append,List.find?_eq_none.2 fun t ht=>by rw[h t ht];simp]
  simp[hf]
 rw[e]
theorem c0G {pre:List (List Int×List Flt)} {x:List Int×List Flt} (h:pre++[x] <+: eds.map fun t=>(t,fts t)) (hc:∀y∈pre,y.2=[]) (hx:x.2≠[]):c4s p eds fts=⟨2,d3c,x.1,x.2⟩:=by
 obtain⟨z,hz⟩:=h;rw[List.append_assoc]at hz
 obtain⟨a,r,rfl,h1,h2⟩:=List.map_eq_append_iff.1 hz.symm;obtain⟨t,s,rfl,h3,h4⟩:=List.map_eq_cons_iff.1 h2;subst h3;rw[c4t (pre:=a) (t:=t) (rest:=s) (fun y hy=>hc (y,fts y) (by rw[←h1];exact List.mem_map_of_mem hy)) hx rfl]
theorem c0F {pre:List (List Int×List Flt)} (h:pre=eds.map fun t=>(t,fts t)) (hc:∀y∈pre,y.2=[]):c4s p eds fts=⟨if pre.isEmpty=true then 3 else 1,p,[],[]⟩:=by
 subst h;rw[b8y fun t ht=>hc (t,fts t) (List.mem_map_of_mem ht)]
 cases eds<;>rfl
end
section
variable {f:Fm} {c:List Kind} {b:Bok} {l own:List Rep} {vn:ByteArray} {day:Int}
theorem c2I (h2:(runL f c [] 0).2.2=0):a2p c=true:=by
 unfold runL at h2
 split at h2
 ·rename_i h
  simp only[Bool.or_eq_true,Bool.not_eq_true']at h
  cases h2
 ·rename_i h
  simp at h
  exact h.1
theorem b6L (h:(!decide ((runL f c [] 0).2.2=0)||l.any fun r=>!a0l r)=true):decR f c b l own vn day=b2V:=if_pos h
theorem c0E (h:(runL f c [] 0).2.2=0) (hv:(l.any fun r=>!a0l r)=false):decR f c b l own vn day=c4s (a5x c own) (a3l c own) (ftsF f c b own vn day):=if_neg (by rw[h,hv];simp)
end
end Go.Sx
set_option linter.all false
namespace Go.Sx
open Go
structure Amd where
 clock:Int
 frm:Int
 to:Int
 void:Bool
 rule:Rul
def Amd.cs (a:Amd) (s:Value):List Value:=[ci a.clock,ci a.frm,ci a.to,.bool a.void,.string a.rule.name,.string a.rule.kind,ci a.rule.cond.op,.string a.rule.cond.name,.string a.rule.cond.value,ci a.rule.cond.n,ci a.rule.cond.extra,s]
instance:Enc Amd where
 k:=12
 rd I vs a:=∃s,vs=a.cs s∧RdS I s a.rule.cond.kids
 len h:=by obtain⟨s,rfl,_⟩:=h;rfl
 mono hI h:=by obtain⟨s,rfl,h⟩:=h;exact⟨s,rfl,h.le hI⟩
 one h:=by obtain⟨s,rfl,A,c,rfl,_⟩:=h;rfl
def a5P (a:Amd):Bool:=((((decide (0≤a.clock)&&decide (a.clock≤1000000))&&decide (0≤a.frm))&&decide (a.frm≤a.to))&&decide (a.to≤40000))&&a5m a.rule
def b3b (day clock:Int) (a:Amd):Bool:=((!a5P a||decide (clock<a.clock))||decide (day<a.frm))||decide (a.to<day)
def zXp:Xp:=.mk 0 a0O a0O 0 0 []
def zAm:Amd:=⟨0,0,0,false,⟨a0O,a0O,zXp⟩⟩
def b4U (l:List Amd) (i:Nat):Amd:=l.getD i zAm
def a2v (l:List Amd) (day clock:Int):Nat→ByteArray→Option Nat
 |0,_=>none
 |i+1,s=>if (!b3b day clock (b4U l i)&&decide ((b4U l i).rule.name=s))=true then
   (match a2v l day clock i s with
    |none=>some i
    |some k=>if decide ((b4U l k).clock≤(b4U l i).clock)=true then some i else some k)
  else a2v l day clock i s
structure KvA (kvs:List (ByteArray×Value)) (D:ByteArray→Option Nat):Prop where
 nd:(kvs.map Prod.fst).Nodup
 get:∀s,a3U kvs s=(D s).map fun k=>Value.int .i64 ((k:Nat):Int)
section
variable {l:List Amd} {day clock:Int} {i:Nat} {s:ByteArray} {kvs:List (ByteArray×Value)} {D:ByteArray→Option Nat}
theorem a9b (h:i<l.length):b4U l i=l[i]:=by unfold b4U;rw[List.getD_eq_getElem?_getD,List.getElem?_eq_getElem h];rfl
theorem a8H (h:i<l.length) (hb:b3b day clock l[i]=true):a2v l day clock (i+1)=a2v l day clock i:=by
 funext s;conv=>lhs;unfold a2v
 rw[a9b h,hb];simp
theorem b5f:∀i s k,a2v l day clock i s=some k→k<i:=by
 intro i
 induction i with
 |zero=>intro s k h;cases h
 |succ i ih=>
  intro s k h;unfold a2v at h
  split at h
  ·cases hd:a2v l day clock i s with
   |none=>rw[hd]at h;simp at h;omega
   |some j=>
    rw[hd]at h
    have:=ih s j hd
    simp only at h
    split at h<;>(cases h;omega)
  ·have:=ih s k h;omega
theorem b6K (h:i<l.length) (hb:b3b day clock l[i]=false) (hc:(!(a2v l day clock i l[i].rule.name).isSome||decide ((b4U l ((a2v l day clock i l[i].rule.name).getD 0)).clock≤l[i].clock))=true) :
  a2v l day clock (i+1)=fun s=>if l[i].rule.name=s then some i else a2v l day clock i s:=by
 funext s;conv=>lhs;unfold a2v
 rw[a9b h,hb]
 by_cases hs:l[i].rule.name=s
 ·subst hs
  simp only[Bool.not_false,decide_true,Bool.and_self,if_true]
  cases hd:a2v l day clock i l[i].rule.name with
  |none=>rfl
  |some k=>rw[hd]at hc;simp only[Option.isSome_some,Bool.not_true,Bool.false_or,Option.getD_some]at hc;simp only;rw[if_pos hc]
 ·simp[hs]
theorem c4r (h:i<l.length) (hb:b3b day clock l[i]=false) (hc:(!(a2v l day clock i l[i].rule.name).isSome||decide ((b4U l ((a2v l day clock i l[i].rule.name).getD 0)).clock≤l[i].clock))=false) :
  a2v l day clock (i+1)=a2v l day clock i:=by
 funext s;conv=>lhs;unfold a2v
 rw[a9b h,hb]
 by_cases hs:l[i].rule.name=s
 ·subst hs
  simp only[Bool.not_false,decide_true,Bool.and_self,if_true]
  cases hd:a2v l day clock i l[i].rule.name with
  |none=>rw[hd]at hc;simp at hc
  |some k=>rw[hd]at hc;simp only[Option.isSome_some,Bool.not_true,Bool.false_or,Option.getD_some]at hc;simp only;rw[if_neg (by rw[hc];decide)]
 ·simp[hs]
theorem KvA.nil:KvA [] (a2v l day clock 0):=⟨List.nodup_nil,fun _=>rfl⟩
theorem KvA.val (h:KvA kvs D) (s:ByteArray):(a3U kvs s).getD (.int .i64 0) = .int .i64 (((D s).getD 0:Nat):Int):=by
 rw[h.get];cases D s<;>rfl
theorem KvA.is (h:KvA kvs D) (s:ByteArray):(a3U kvs s).isSome=(D s).isSome:=by
 rw[h.get];cases D s<;>rfl
theorem KvA.put (h:KvA kvs D) (k:ByteArray) (i:Nat):KvA (a3P kvs k (.int .i64 ((i:Nat):Int))) fun s=>if k=s then some i else D s:=
 ⟨a9P h.nd,fun s=>by rw[a7f,h.get];split<;>rfl⟩
theorem b5D (k:ByteArray) (v:Value):∀kvs:List (ByteArray×Value),(a3P kvs k v).length≤kvs.length+1
 | []=>Nat.le_refl _
 |(k',v')::r=>by
  have:=b5D k v r;unfold a3P
  split
  ·simp
  ·simp only[List.length_cons];omega
theorem b7i:∀{kvs:List (ByteArray×Value)} {s:ByteArray},s∈kvs.map Prod.fst↔(a3U kvs s).isSome=true
 | [],s=>by simp[a3U]
 |(k',v')::r,s=>by
  have ih:=b7i (kvs:=r) (s:=s)
  simp only[List.map_cons,List.mem_cons,a3U]
  by_cases h:k'=s
  ·subst h;simp
  ·rw[if_neg h,←ih];exact⟨fun q=>q.elim (fun e=>absurd e.symm h) id,.inr⟩
theorem a9v:∀i,i≤l.length→∀s,(a2v l day clock i s).isSome=true→s∈l.map fun a=>a.rule.name:=by
 intro i
 induction i with
 |zero=>intro _ s h;cases h
 |succ i ih=>
  intro hi s h;unfold a2v at h
  split at h
  ·rename_i hc
   rw[a9b oM]at hc
   simp only[Bool.and_eq_true,decide_eq_true_eq]at hc
   exact List.mem_map.2 ⟨_,List.getElem_mem oM,hc.2⟩
  ·exact ih oM s h
end
def b6h (l:List Amd) (D:ByteArray→Option Nat) (s:ByteArray):Option Rul:=match D s with
 |none=>none
 |some k=>if (b4U l k).void=true then none else some (b4U l k).rule
def a2t (l:List Amd) (D:ByteArray→Option Nat):List ByteArray:=(l.map fun a=>a.rule.name).filter fun s=>(D s).isSome
def inF (l:List Amd) (day clock:Int):List Rul:=(a6v sLt (a2t l (a2v l day clock l.length))).filterMap (b6h l (a2v l day clock l.length))
section
variable {l:List Amd} {day clock:Int} {i:Nat} {s:ByteArray} {kvs done:List (ByteArray×Value)} {m:List ByteArray}
theorem c5w (hK:KvA kvs (a2v l day clock l.length)) (hd:done.Perm kvs) (hs:SrtP (done.map Prod.fst) m):m=a6v sLt (a2t l (a2v l day clock l.length)):=by
 refine SrtU.uniq a1h (fun a b c=>a1s) (b4G hs ((hd.map Prod.fst).nodup_iff.2 hK.nd)) (a7w (lt:=sLt) (fun a b c=>a1s) fun x _ y _ h hn=>a7t h hn) fun z=>?_
 rw[hs.1.mem_iff,(hd.map Prod.fst).mem_iff,b7i,hK.is,a4D];unfold a2t;rw[List.mem_filter];exact⟨fun h=>⟨a9v _ (Nat.le_refl _) z h,h⟩,fun h=>h.2⟩
theorem c5v (h:i<(a6v sLt (a2t l (a2v l day clock l.length))).length):∃k,a2v l day clock l.length (a6v sLt (a2t l (a2v l day clock l.length)))[i]=some k∧k<l.length:=by
 have h1:=a4D.1 (List.getElem_mem h);unfold a2t at h1
 rw[List.mem_filter]at h1
 obtain⟨k,hk⟩:=Option.isSome_iff_exists.1 h1.2;exact⟨k,hk,b5f _ _ _ hk⟩
def a3R (l:List Amd) (D:ByteArray→Option Nat) (m:List ByteArray) (i:Nat):List Rul:=(m.take i).filterMap (b6h l D)
theorem b4y {D:ByteArray→Option Nat} {k:Nat} (h:i<m.length) (hk:D m[i]=some k) (hkl:k<l.length) (hv:l[k].void=false):a3R l D m (i+1)=a3R l D m i++[l[k].rule]:=by
 unfold a3R;rw[←a0c h,List.filterMap_append]
 simp[b6h,hk,a9b hkl,hv]
theorem b7M {D:ByteArray→Option Nat} {k:Nat} (h:i<m.length) (hk:D m[i]=some k) (hkl:k<l.length) (hv:l[k].void=true):a3R l D m (i+1)=a3R l D m i:=by
 unfold a3R;rw[←a0c h,List.filterMap_append]
 simp[b6h,hk,a9b hkl,hv]
theorem b0l:a3R l (a2v l day clock l.length) (a6v sLt (a2t l (a2v l day clock l.length))) (a6v sLt (a2t l (a2v l day clock l.length))).length=inF l day clock:=by
 unfold a3R;rw[List.take_length];rfl
theorem c2G {D:ByteArray→Option Nat}:(a3R l D m i).length≤i:=by
 unfold a3R;exact Nat.le_trans (List.length_filterMap_le _ _) (List.length_take_le _ _)
end
end Go.Sx
set_option linter.all false
namespace Go.Sx
open Go
section
variable {P:Program} {t:TypeId}
theorem b1A {ts ti tt:TypeId} (hf:a0W P t=some [(ti,0,1),(tt,1,1),(tt,2,1),(ti,3,1),(ti,4,1),(ts,5,1)]) (hc:P.cellsOf t=6) (hs:P.underlying ts=some (.slice t)) (hi:P.underlying ti=some (.int .i64)) (hst:a1D P tt ByteArray SmB):a1D P t Xp OkXp:=by
 unfold a0W at hf
 split at hf
 ·rename_i fs h1
  exact c5J h1 (Option.some.inj hf) hc hs hi hst
 ·cases hf
theorem b4g {ts tx:TypeId} (hf:a0W P t=some [(ts,0,1),(ts,1,1),(tx,2,6)]) (hc:P.cellsOf t=8) (hs:a1D P ts ByteArray SmB) (hx:a1D P tx Xp OkXp):a1D P t Rul a4R:=by
 intro H enc w base spare held fuel cs x h;obtain⟨hl,hall⟩:=a1Q hf h;rw[hc]at hl
 obtain⟨a0,r0_,rfl,l0_⟩:=a0j hl;obtain⟨a1,r1_,rfl,l1_⟩:=a0j l0_;obtain⟨a2,r2_,rfl,l2_⟩:=a0j l1_;obtain⟨a3,r3_,rfl,l3_⟩:=a0j l2_;obtain⟨a4,r4_,rfl,l4_⟩:=a0j l3_;obtain⟨a5,r5_,rfl,l5_⟩:=a0j l4_;obtain⟨a6,r6_,rfl,l6_⟩:=a0j l5_;obtain⟨a7,r7_,rfl,l7_⟩:=a0j l6_;obtain rfl:=a4k l7_;obtain⟨n0,y0,h0⟩:=hall (ts,0,1) (by simp);obtain⟨x0,e0,g0⟩:=hs enc w base spare held n0 _ y0 h0;have e0:[a0]=[.string x0]:=e0
 cases e0
 obtain⟨n1,y1,h1⟩:=hall (ts,1,1) (by simp);obtain⟨x1,e1,g1⟩:=hs enc w base spare held n1 _ y1 h1;have e1:[a1]=[.string x1]:=e1
 cases e1
 obtain⟨n2,y2,h2⟩:=hall (tx,2,6) (by simp);obtain⟨x2,q2,g2⟩:=hx enc w base spare held n2 _ y2 h2;have q2:XpRd (Iw w) [a2,a3,a4,a5,a6,a7] x2:=q2;obtain⟨s2,e2,q2⟩:=b0x q2
 simp only[Xp.cs,List.cons.injEq,and_true]at e2
 obtain⟨rfl,rfl,rfl,rfl,rfl,rfl⟩:=e2;exact⟨⟨x0,x1,x2⟩,⟨_,rfl,q2⟩,⟨g0,g1,g2⟩⟩
theorem b4f {ti tb tr:TypeId} (hf:a0W P t=some [(ti,0,1),(ti,1,1),(ti,2,1),(tb,3,1),(tr,4,8)]) (hc:P.cellsOf t=12) (hi:a1D P ti Int I64) (hb:a1D P tb Bool (fun _=>True)) (hr:a1D P tr Rul a4R):a1D P t Amd (fun a=>a4R a.rule):=by
 intro H enc w base spare held fuel cs x h;obtain⟨hl,hall⟩:=a1Q hf h;rw[hc]at hl
 obtain⟨a0,r0_,rfl,l0_⟩:=a0j hl;obtain⟨a1,r1_,rfl,l1_⟩:=a0j l0_;obtain⟨a2,r2_,rfl,l2_⟩:=a0j l1_;obtain⟨a3,r3_,rfl,l3_⟩:=a0j l2_;obtain⟨a4,r4_,rfl,l4_⟩:=a0j l3_;obtain⟨a5,r5_,rfl,l5_⟩:=a0j l4_;obtain⟨a6,r6_,rfl,l6_⟩:=a0j l5_;obtain⟨a7,r7_,rfl,l7_⟩:=a0j l6_;obtain⟨a8,r8_,rfl,l8_⟩:=a0j l7_;obtain⟨a9,r9_,rfl,l9_⟩:=a0j l8_;obtain⟨a10,r10_,rfl,l10_⟩:=a0j l9_;obtain⟨a11,r11_,rfl,l11_⟩:=a0j l10_;obtain rfl:=a4k l11_;obtain⟨n0,y0,h0⟩:=hall (ti,0,1) (by simp);obtain⟨x0,e0,g0⟩:=hi enc w base spare held n0 _ y0 h0;have e0:[a0]=[.int .i64 x0]:=e0
 cases e0
 obtain⟨n1,y1,h1⟩:=hall (ti,1,1) (by simp);obtain⟨x1,e1,g1⟩:=hi enc w base spare held n1 _ y1 h1;have e1:[a1]=[.int .i64 x1]:=e1
 cases e1
 obtain⟨n2,y2,h2⟩:=hall (ti,2,1) (by simp);obtain⟨x2,e2,g2⟩:=hi enc w base spare held n2 _ y2 h2;have e2:[a2]=[.int .i64 x2]:=e2
 cases e2
 obtain⟨n3,y3,h3⟩:=hall (tb,3,1) (by simp);obtain⟨x3,e3,g3⟩:=hb enc w base spare held n3 _ y3 h3;have e3:[a3]=[.bool x3]:=e3
 cases e3
 obtain⟨n4,y4,h4⟩:=hall (tr,4,8) (by simp);obtain⟨x4,⟨s4,e4,q4⟩,g4⟩:=hr enc w base spare held n4 _ y4 h4;have e4:[a4,a5,a6,a7,a8,a9,a10,a11]=x4.cs s4:=e4
 simp only[Rul.cs,List.cons.injEq,and_true]at e4
 obtain⟨rfl,rfl,rfl,rfl,rfl,rfl,rfl,rfl⟩:=e4;exact⟨⟨x0,x1,x2,x3,x4⟩,⟨_,rfl,q4⟩,g4⟩
end
end Go.Sx
set_option linter.all false
namespace Go.Sx
open Go
structure HN (n:Nat) (g:Prop):Prop where
 out:g
theorem HN.z {s:Prop} (h:HN 0 s):s:=h.out
theorem HN.p {s:Prop} {n:Nat} (h:HN (n+1) s):HN n s:=⟨h.out⟩
structure HD (i n:Nat) (g:Prop):Prop where
 out:g
theorem HD.z {i:Nat} {s:Prop} (h:HD i 0 s):s:=h.out
theorem HD.p {s:Prop} {i n:Nat} (h:HD i (n+1) s):HD (i+1) n s:=⟨h.out⟩
class Has {α:Type} (a:Option α) (b:outParam α):Prop where
 eq:a=some b
theorem he {α:Type} {a:Option α} {b:α} [h:Has a b]:a=some b:=h.eq
theorem hk {α:Type} {a:Option α} {b:α} (h:a=some b:=by kernel_rfl):Has a b:=⟨h⟩
theorem sb {L L':LL} (h:Sub L' L:=by repeat (first|exact trivial|refine⟨rfl,?_⟩)):Sub L' L:=h
section
variable {P:Program} {ρ:Option Nat} {n:Sz} {E:Ent} {I I':IMap} {L L':LL} {H H':List Res} {K K':Act→World→Prop} {Q:Exit→Act→World→Prop} {ops:Array Oper}
theorem cb {c:Operand} {x y:Code} {b:Bool} {p q:Prop} (hc:ev L c=some (.bool b)) (ht:b=true→p→SX n E I L H (x.wq ρ P Q)) (hf:b=false→q→SX n E I L H (y.wq ρ P Q))
  (e1:b=true→p:=by first|(intro h;simp only[bO]at h;exact h)|exact fun h=>h) (e2:b=false→q:=by first|(intro h;simp only[bO]at h;exact h)|exact fun h=>h) :
  SX n E I L H ((Code.cond c x y).wq ρ P Q):=d2a hc (fun h=>ht h (e1 h)) (fun h=>hf h (e2 h))
theorem sxb {v:Bool} {p q:Prop} (t:Nat) (h:look L t=some (.bool v)) (h1:v=true→p→SX n E I L H K) (h2:v=false→q→SX n E I L H K)
  (e1:v=true→p:=by first|(intro h;simp only[bO]at h;exact h)|exact fun h=>h) (e2:v=false→q:=by first|(intro h;simp only[bO]at h;exact h)|exact fun h=>h):SX n E I L H K:=c6S t h (fun h=>h1 h (e1 h)) (fun h=>h2 h (e2 h))
theorem d6N {b o:Nat} {cs:List Value} {v:Value} (c:ICells I b o cs) (h:cs[0]? = some v):ICell I b o v:=c 0 v h
theorem ldI {b o j:Nat} {cs:List Value} {v:Value} (c:ICells I b o cs) (h:cs[j]? = some v):ICell I b (o+j) v:=c j v h
variable {d ty:Nat} {pos:String} {af:Array Edge} {x y z:Operand} {tt tx tyy q:Nat} {v:Value}
theorem d0t (h:OV P n E I L H ⟨some d,.move x,ty,pos,af,none⟩ v):OV P n E I L H ⟨some d,.move x,ty,pos,af,none⟩ v:=h
theorem c2o (h:OV P n E I L H ⟨some d,.assign x,ty,pos,af,none⟩ v):OV P n E I L H ⟨some d,.assign x,ty,pos,af,none⟩ v:=h
theorem b4q (h:OV P n E I L H ⟨some d,.fieldAddr tt x q,ty,pos,af,none⟩ v):OV P n E I L H ⟨some d,.fieldAddr tt x q,ty,pos,af,none⟩ v:=h
theorem d0s (h:OV P n E I L H ⟨some d,.load tt x,ty,pos,af,none⟩ v):OV P n E I L H ⟨some d,.load tt x,ty,pos,af,none⟩ v:=h
theorem c5U (h:OV P n E I L H ⟨some d,.field tt x q,ty,pos,af,none⟩ v):OV P n E I L H ⟨some d,.field tt x q,ty,pos,af,none⟩ v:=h
theorem b9j (h:OV P n E I L H ⟨some d,.extract x q,ty,pos,af,none⟩ v):OV P n E I L H ⟨some d,.extract x q,ty,pos,af,none⟩ v:=h
theorem d3F (h:OV P n E I L H ⟨some d,.unOp .not tt x,ty,pos,af,none⟩ v):OV P n E I L H ⟨some d,.unOp .not tt x,ty,pos,af,none⟩ v:=h
theorem d3E (h:OV P n E I L H ⟨some d,.nilCheck x,ty,pos,af,none⟩ v):OV P n E I L H ⟨some d,.nilCheck x,ty,pos,af,none⟩ v:=h
theorem d0u (h:OV P n E I L H ⟨some d,.pick x y z,ty,pos,af,none⟩ v):OV P n E I L H ⟨some d,.pick x y z,ty,pos,af,none⟩ v:=h
theorem d3C (h:OV P n E I L H ⟨some d,.binOp .lss tx x y tyy,ty,pos,af,none⟩ v):OV P n E I L H ⟨some d,.binOp .lss tx x y tyy,ty,pos,af,none⟩ v:=h
theorem d3B (h:OV P n E I L H ⟨some d,.binOp .leq tx x y tyy,ty,pos,af,none⟩ v):OV P n E I L H ⟨some d,.binOp .leq tx x y tyy,ty,pos,af,none⟩ v:=h
theorem d3y (h:OV P n E I L H ⟨some d,.binOp .gtr tx x y tyy,ty,pos,af,none⟩ v):OV P n E I L H ⟨some d,.binOp .gtr tx x y tyy,ty,pos,af,none⟩ v:=h
theorem d3x (h:OV P n E I L H ⟨some d,.binOp .geq tx x y tyy,ty,pos,af,none⟩ v):OV P n E I L H ⟨some d,.binOp .geq tx x y tyy,ty,pos,af,none⟩ v:=h
theorem d3w (h:OV P n E I L H ⟨some d,.binOp .eql tx x y tyy,ty,pos,af,none⟩ v):OV P n E I L H ⟨some d,.binOp .eql tx x y tyy,ty,pos,af,none⟩ v:=h
theorem d3D (h:OV P n E I L H ⟨some d,.binOp .neq tx x y tyy,ty,pos,af,none⟩ v):OV P n E I L H ⟨some d,.binOp .neq tx x y tyy,ty,pos,af,none⟩ v:=h
theorem d3v (h:OV P n E I L H ⟨some d,.binOp .add tx x y tyy,ty,pos,af,none⟩ v):OV P n E I L H ⟨some d,.binOp .add tx x y tyy,ty,pos,af,none⟩ v:=h
theorem d3G (h:OV P n E I L H ⟨some d,.binOp .sub tx x y tyy,ty,pos,af,none⟩ v):OV P n E I L H ⟨some d,.binOp .sub tx x y tyy,ty,pos,af,none⟩ v:=h
theorem c5T {ps:Array (Nat×Operand)} (h:OV P n E I L H ⟨some d,.build tt ps,ty,pos,af,none⟩ v):OV P n E I L H ⟨some d,.build tt ps,ty,pos,af,none⟩ v:=h
theorem b5W {fn:Fn} {a b:Array Operand} (h:OV P n E I L H ⟨some d,.makeFunc fn a b,ty,pos,af,none⟩ v):OV P n E I L H ⟨some d,.makeFunc fn a b,ty,pos,af,none⟩ v:=h
theorem d3z (h:OV P n E I L H ⟨some d,.indexAddr tt x y,ty,pos,af,none⟩ v):OV P n E I L H ⟨some d,.indexAddr tt x y,ty,pos,af,none⟩ v:=h
theorem d3A (h:OV P n E I L H ⟨some d,.call { callee:=.builtin .len,args:=#[x],argTypes:=#[tx] },ty,pos,af,none⟩ v):OV P n E I L H ⟨some d,.call { callee:=.builtin .len,args:=#[x],argTypes:=#[tx] },ty,pos,af,none⟩ v:=h
theorem va {o:Oper} (h:OV P n E I L H o v:=by
  first
   |((with_unfolding_none refine' d0t ?_);rotate_left;exact c3z rfl)
   |((with_unfolding_none refine' c2o ?_);rotate_left;exact c6Y rfl)
   |((with_unfolding_none refine' b4q ?_);rotate_left;exact b6t he rfl)
   |((with_unfolding_none refine' d0s ?_);rotate_left;(first|exact b2S m0 he rfl rfl|exact b2S m1 he rfl rfl|exact b2S m2 he rfl rfl|exact b2S m3 he rfl rfl|exact b2S m4 he rfl rfl|exact b2S m5 he rfl rfl|exact b2S m6 he rfl rfl|exact a3f m0 he rfl rfl|exact a3f m1 he rfl rfl|exact a3f m2 he rfl rfl|exact a3f m3 he rfl rfl|exact a3f m4 he rfl rfl|exact a3f m5 he rfl rfl|exact a3f m6 he rfl rfl|exact a0V he rfl (by assumption) rfl|exact a0H he rfl (by refine' d6N ?_ ?_;first|(rotate_left;assumption;exact rfl)|(rotate_left 2;assumption;exact rfl))|exact a0H he rfl (by refine' ldI ?_ ?_;first|(rotate_left;assumption;exact rfl)|(rotate_left 2;assumption;exact rfl))))
   |((with_unfolding_none refine' d0u ?_);rotate_left;(first|exact c3r rfl rfl|exact c7Z rfl rfl|exact c3s rfl rfl rfl|exact c7Y rfl rfl rfl|exact c3r (by assumption) rfl|exact c7Z (by assumption) rfl|exact c3s (by assumption) rfl rfl|exact c7Y (by assumption) rfl rfl))
   |((with_unfolding_none refine' d3C ?_);rotate_left;(first|exact b9F rfl rfl|exact d4t rfl rfl))
   |((with_unfolding_none refine' d3A ?_);rotate_left;(first|exact a3w he rfl|exact c3w he rfl))
   |((with_unfolding_none refine' b9j ?_);rotate_left;exact a2c rfl rfl)
   |((with_unfolding_none refine' d3F ?_);rotate_left;exact b9I rfl)
   |((with_unfolding_none refine' d3w ?_);rotate_left;(first|exact c3u rfl rfl|exact d4p rfl rfl))
   |((with_unfolding_none refine' d3D ?_);rotate_left;(first|exact b2T rfl rfl|exact d4w rfl rfl))
   |((with_unfolding_none refine' d3B ?_);rotate_left;(first|exact d1s rfl rfl|exact d4s rfl rfl))
   |((with_unfolding_none refine' d3y ?_);rotate_left;(first|exact c7b rfl rfl|exact d4r rfl rfl))
   |((with_unfolding_none refine' d3x ?_);rotate_left;(first|exact b9D rfl rfl|exact d4q rfl rfl))
   |((with_unfolding_none refine' d3v ?_);rotate_left;exact a2h rfl rfl ⟨oM,oM⟩)
   |((with_unfolding_none refine' d3G ?_);rotate_left;exact a1f rfl rfl ⟨oM,oM⟩)
   |((with_unfolding_none refine' d3E ?_);rotate_left;exact b9H rfl)
   |((with_unfolding_none refine' c5T ?_);rotate_left;exact d1p he he rfl rfl)
   |((with_unfolding_none refine' b5W ?_);rotate_left;exact b9G rfl rfl)
   |((with_unfolding_none refine' d3z ?_);rotate_left;exact a0m he rfl rfl (by assumption) _ (by first|exact rfl|omega) oM)
   |((with_unfolding_none refine' c5U ?_);rotate_left;(first|exact d1q he rfl rfl|exact c7a _ he rfl rfl))):OV P n E I L H o v:=h
theorem d6U {rest:List Oper} {op:Op} {v:Value} (hd:Nat.blt d n.sz=true) (h:OV P n E I L H ⟨some d,op,ty,pos,af,none⟩ v) (k:SX n E I ((d,v)::L) H (wpL P ops Q rest)):SX n E I L H (wpL P ops Q (⟨some d,op,ty,pos,af,none⟩::rest)):=o_v hd h k
theorem d6V {rest:List Oper} {op:Op} {j:Nat} {b:Bool} {v:Value} {t:Nat} {c:Bool} (ht:(ops[j]?).bind (·.dst)=some t) (hb:look L t=some (.bool c)) (hv:c=b) (hd:Nat.blt d n.sz=true) (h:OV P n E I L H ⟨some d,op,ty,pos,af,none⟩ v) (k:SX n E I ((d,v)::L) H (wpL P ops Q rest)):SX n E I L H (wpL P ops Q (⟨some d,op,ty,pos,af,some (j,b)⟩::rest)):=a0A (a0q ht hb hv (a0t hd h k))
theorem d6R {rest:List Oper} {op:Op} {j:Nat} {b:Bool} {t:Nat} {c:Bool} (ht:(ops[j]?).bind (·.dst)=some t) (hb:look L t=some (.bool c)) (hv:c = !b) (hd:Nat.blt d n.sz=true) (k:SX n E I ((d,undef)::L) H (wpL P ops Q rest)):SX n E I L H (wpL P ops Q (⟨some d,op,ty,pos,af,some (j,b)⟩::rest)):=a0A (d6S ht hb hv hd k)
theorem d5Y {rest:List Oper} {op:Op} {j:Nat} {b:Bool} {t:Nat} {c:Bool} (ht:(ops[j]?).bind (·.dst)=some t) (hb:look L t=some (.bool c)) (hv:c = !b) (k:SX n E I L H (wpL P ops Q rest)):SX n E I L H (wpL P ops Q (⟨none,op,ty,pos,af,some (j,b)⟩::rest)):=a0A (d6a ht hb hv k)
theorem d6T {rest:List Oper} {op:Op} {j:Nat} {b:Bool} {t:Nat} (ht:(ops[j]?).bind (·.dst)=some t) (hb:look L t=some undef) (hd:Nat.blt d n.sz=true) (k:SX n E I ((d,undef)::L) H (wpL P ops Q rest)):SX n E I L H (wpL P ops Q (⟨some d,op,ty,pos,af,some (j,b)⟩::rest)):=a0A (d6b ht hb hd k)
variable {ρ:Option Nat} {F:List Res} {I0:IMap} {listed:Array Bool} {fuel:Nat} {fn:Func} {R:Ending→World→Prop} {k m:Nat}
theorem c5W (h:SX n E I L H (one P ops Q ⟨none,.store tt x y,ty,pos,af,none⟩ K)):SX n E I L H (one P ops Q ⟨none,.store tt x y,ty,pos,af,none⟩ K):=h
theorem c5V (h:SX n E I L H (one P ops Q ⟨some d,.alloc tt,ty,pos,af,none⟩ K)):SX n E I L H (one P ops Q ⟨some d,.alloc tt,ty,pos,af,none⟩ K):=h
theorem d3I (h:SX n E I L H (one P ops Q ⟨some d,.box tt x,ty,pos,af,none⟩ K)):SX n E I L H (one P ops Q ⟨some d,.box tt x,ty,pos,af,none⟩ K):=h
theorem d6e {ps:Array (Nat×Operand)} (h:SX n E I L H (one P ops Q ⟨some d,.buildSlice tt m ps,ty,pos,af,none⟩ K)):SX n E I L H (one P ops Q ⟨some d,.buildSlice tt m ps,ty,pos,af,none⟩ K):=h
theorem d3L (h:SX n E I L H (b3a P fn R .ret)):SX n E I L H (b3a P fn R .ret):=h
theorem d3J (h:SX n E I L H (b3a P fn R .normal)):SX n E I L H (b3a P fn R .normal):=h
theorem d3H (h:SX n E I L H (a1a P ops (NQ Q) (a0T E I0 F) fuel listed)):SX n E I L H (a1a P ops (NQ Q) (a0T E I0 F) fuel listed):=h
theorem d0w (h:SX n E I L H (fun a w=>a0T E I0 F w∧K a w)):SX n E I L H (fun a w=>a0T E I0 F w∧K a w):=h
theorem d3K {id:Nat} {l:Array Oper} (h:SX n E I L H ((Code.region id l true).wq ρ P Q)):SX n E I L H ((Code.region id l true).wq ρ P Q):=h
theorem d0v {c:Operand} {x y:Code} (h:SX n E I L H ((Code.cond c x y).wq ρ P Q)):SX n E I L H ((Code.cond c x y).wq ρ P Q):=h
theorem rv {r:ResultVar} {v:Value} (h:RV P L H r v:=by
  first
   |exact rfl
   |exact⟨_,_,_,rfl,m0,.inr ⟨_,he,rfl,rfl⟩⟩|exact⟨_,_,_,rfl,m0,.inl ⟨he,rfl⟩⟩
   |exact⟨_,_,_,rfl,m1,.inr ⟨_,he,rfl,rfl⟩⟩|exact⟨_,_,_,rfl,m1,.inl ⟨he,rfl⟩⟩
   |exact⟨_,_,_,rfl,m2,.inr ⟨_,he,rfl,rfl⟩⟩|exact⟨_,_,_,rfl,m2,.inl ⟨he,rfl⟩⟩
   |exact⟨_,_,_,rfl,m3,.inr ⟨_,he,rfl,rfl⟩⟩|exact⟨_,_,_,rfl,m3,.inl ⟨he,rfl⟩⟩
   |exact⟨_,_,_,rfl,m4,.inr ⟨_,he,rfl,rfl⟩⟩|exact⟨_,_,_,rfl,m4,.inl ⟨he,rfl⟩⟩):RV P L H r v:=h
theorem sl {F:List Res} (h:List.Sublist F H:=by repeat (first|exact .refl _|exact .slnil|exact List.nil_sublist _|refine .cons₂ _ ?_|refine .cons _ ?_)):List.Sublist F H:=h
theorem kp (h:∀w,Mem E I H w→a0T E I0 F w:=by
  first
   |exact fun _ m=>m.keeps sl
   |exact fun _ m=>m.keepsI sl (by repeat (first|assumption|exact ILe.refl _|refine ILe.trans ?_ (by assumption))) (by assumption) (by assumption)):∀w,Mem E I H w→a0T E I0 F w:=h
theorem gg {g s:Prop} {n:Nat} (h0:HN n s) (h:HN n s→g:=by
  intro h
  repeat (first
   |exact HN.z h
   |replace h:=HN.p h;first
    |((with_unfolding_none refine' d6U ?_ ?_ ?_);rotate_left;exact rfl;exact va)
    |with_unfolding_none refine d3N ?_
    |with_unfolding_none refine d5Z ?_
    |with_unfolding_none refine d5f ?_
    |with_unfolding_none refine c4e ?_
    |with_unfolding_none refine d2c ?_
    |with_unfolding_none refine b9n ?_
    |with_unfolding_none refine d5e ?_
    |with_unfolding_none refine c8t ?_
    |with_unfolding_none refine d0y ?_
    |with_unfolding_none refine b5Z ?_
    |with_unfolding_none refine b5Y ?_
    |with_unfolding_none refine d2b ?_
    |with_unfolding_none refine b9l ?_
    |((with_unfolding_none refine' d6R ?_ ?_ ?_ ?_ ?_);rotate_left 2;exact rfl;exact rfl;(first|exact rfl|assumption);exact rfl)
    |((with_unfolding_none refine' d6T ?_ ?_ ?_ ?_);rotate_left;exact rfl;exact rfl;exact rfl)
    |((with_unfolding_none refine' d5Y ?_ ?_ ?_ ?_);rotate_left 2;exact rfl;exact rfl;(first|exact rfl|assumption))
    |((with_unfolding_none refine' d6V ?_ ?_ ?_ ?_ ?_ ?_);rotate_left 3;exact rfl;exact rfl;(first|exact rfl|assumption);exact rfl;exact va)
    |((with_unfolding_none refine b9m ?_ ?_);exact rfl)
    |((with_unfolding_none refine c5W ?_);first|refine a0Q _ he rfl rfl rfl rfl rfl rfl ?_|refine b0N he rfl rfl rfl rfl ?_|refine d6c _ _ he rfl rfl rfl rfl rfl rfl rfl ?_)
    |((with_unfolding_none refine d0w ?_);refine d5k kp ?_)
    |((with_unfolding_none refine d3H ?_);refine d2i (by kernel_rfl) ?_)
    |((with_unfolding_none refine d3L ?_);first|refine d6J rfl rv ?_|refine d6K rfl rv rv ?_|refine d6I rfl ?_|refine d6x rfl rv rv rv ?_|refine d6L rfl rv rv rv rv ?_)
    |((with_unfolding_none refine d3J ?_);refine d6G rfl ?_)
    |((with_unfolding_none refine d0v ?_);first|refine d2d rfl ?_|refine c8v rfl ?_)
    |((with_unfolding_none refine c5V ?_);refine c9V he rfl ?_)
    |((with_unfolding_none refine d3K ?_);refine c4q (by kernel_rfl) ?_)
    |((with_unfolding_none refine d3I ?_);refine d5X _ rfl rfl rfl ?_)
    |((with_unfolding_none refine d6e ?_);refine b4a he he rfl rfl rfl rfl rfl rfl rfl ?_)
    |with_unfolding_none refine a0A ?_)):g:=h h0
theorem go {g s:Prop} (n:Nat) (hs:s) (h:HN n s→g:=by intro h;exact gg h):g:=h ⟨hs⟩
theorem gC {g:Prop} {c:Operand} {x y:Code} {b:Bool} {p q:Prop} (k:Nat) (ht:b=true→p→SX n E I L H (x.wq ρ P Q)) (hf:b=false→q→SX n E I L H (y.wq ρ P Q))
  (h:HN k (SX n E I L H ((Code.cond c x y).wq ρ P Q))→g:=by intro h;exact gg h) (hc:ev L c=some (.bool b):=by exact rfl)
  (e1:b=true→p:=by first|(intro h;simp only[bO]at h;exact h)|exact fun h=>h) (e2:b=false→q:=by first|(intro h;simp only[bO]at h;exact h)|exact fun h=>h):g:=h ⟨cb hc ht hf e1 e2⟩
theorem gS {g:Prop} {v:Bool} {p q:Prop} (k t:Nat) (h1:v=true→p→SX n E I L H K) (h2:v=false→q→SX n E I L H K)
  (h:HN k (SX n E I L H K)→g:=by intro h;exact gg h) (hl:look L t=some (.bool v):=by exact rfl)
  (e1:v=true→p:=by first|(intro h;simp only[bO]at h;exact h)|exact fun h=>h) (e2:v=false→q:=by first|(intro h;simp only[bO]at h;exact h)|exact fun h=>h):g:=h ⟨sxb t hl h1 h2 e1 e2⟩
section
variable {s:Prop} {i m:Nat} {o:Oper} {l:List Oper}
theorem atL (hi:l[i]? = some o):l.toArray[i]? = some o:=by simpa using hi
theorem d2k (_:HD i m s) (hi:l[i]? = some o) (hdst:o.dst=some d) (hk:okC l.toArray listed i=true) (hd:Nat.blt d n.sz=true) (hs:List.Sublist F H)
  (hg:o.guard=none) (hv:OV P n E I L F o v) (k:SX n E I ((d,v)::L) H (a1a P l.toArray (NQ Q) (a0T E I F) fuel (listed.setIfInBounds i true))) :
  SX n E I L H (a1a P l.toArray (NQ Q) (a0T E I F) (fuel+1) listed):=a0I i (atL hi) hdst hk hd hs hg hv k
theorem c7x (_:HD i m s) (hi:l[i]? = some o) (hdst:o.dst=some d) (hk:okC l.toArray listed i=true) (hd:Nat.blt d n.sz=true)
  (hC:∀w,Mem E I H w→a0T E I0 F w) (hv:∀a,St n a L→YieldsC P l.toArray (a0T E I0 F) o v a) (k:SX n E I ((d,v)::L) H (a1a P l.toArray (NQ Q) (a0T E I0 F) fuel (listed.setIfInBounds i true))) :
  SX n E I L H (a1a P l.toArray (NQ Q) (a0T E I0 F) (fuel+1) listed):=d_t i (atL hi) hdst hk hd hC hv k
theorem d2j (_:HD i m s) (hr:Region.ready .any l.toArray listed=[i]) (hi:l[i]? = some o)
  (k:SX n E I L H (one P l.toArray (NQ Q) o fun a w=>a0T E I0 F w∧a1a P l.toArray (NQ Q) (a0T E I0 F) fuel (listed.setIfInBounds i true) a w)) :
  SX n E I L H (a1a P l.toArray (NQ Q) (a0T E I0 F) (fuel+1) listed):=d5l i hr (atL hi) k
end
section
variable {o p q:Oper} {l:List Oper}
theorem ds1 {r:Res} {id:Nat} (h:SX n E I L (r::H) (a1a P l.toArray (NQ Q) (a0T E I H) l.length (Array.replicate l.length false))) (hm:P.follows .mixedOrders=true:=by kernel_rfl):SX n E I L (r::H) ((Code.region id l.toArray true).wq ρ P Q):=b1X H hm h
theorem ds2 {r r2:Res} {id:Nat} (h:SX n E I L (r::r2::H) (a1a P l.toArray (NQ Q) (a0T E I H) l.length (Array.replicate l.length false))) (hm:P.follows .mixedOrders=true:=by kernel_rfl):SX n E I L (r::r2::H) ((Code.region id l.toArray true).wq ρ P Q):=b1X H hm h
theorem dT2 (i j:Nat)
  (k1:SX n E I L H (one P l.toArray (NQ Q) o fun a w=>a0T E I0 F w∧a1a P l.toArray (NQ Q) (a0T E I0 F) fuel (listed.setIfInBounds i true) a w))
  (k2:SX n E I L H (one P l.toArray (NQ Q) p fun a w=>a0T E I0 F w∧a1a P l.toArray (NQ Q) (a0T E I0 F) fuel (listed.setIfInBounds j true) a w))
  (hr:Region.ready .any l.toArray listed=[i,j]:=by kernel_rfl) (hi:l[i]? = some o:=by exact rfl) (hj:l[j]? = some p:=by exact rfl) :
  SX n E I L H (a1a P l.toArray (NQ Q) (a0T E I0 F) (fuel+1) listed):=d5m i j hr (atL hi) (atL hj) k1 k2
theorem dT3 (i j k:Nat)
  (k1:SX n E I L H (one P l.toArray (NQ Q) o fun a w=>a0T E I0 F w∧a1a P l.toArray (NQ Q) (a0T E I0 F) fuel (listed.setIfInBounds i true) a w))
  (k2:SX n E I L H (one P l.toArray (NQ Q) p fun a w=>a0T E I0 F w∧a1a P l.toArray (NQ Q) (a0T E I0 F) fuel (listed.setIfInBounds j true) a w))
  (k3:SX n E I L H (one P l.toArray (NQ Q) q fun a w=>a0T E I0 F w∧a1a P l.toArray (NQ Q) (a0T E I0 F) fuel (listed.setIfInBounds k true) a w))
  (hr:Region.ready .any l.toArray listed=[i,j,k]:=by kernel_rfl) (hi:l[i]? = some o:=by exact rfl) (hj:l[j]? = some p:=by exact rfl) (hk:l[k]? = some q:=by exact rfl) :
  SX n E I L H (a1a P l.toArray (NQ Q) (a0T E I0 F) (fuel+1) listed):=c8L i j k hr (atL hi) (atL hj) (atL hk) k1 k2 k3
end
theorem dG {g s:Prop} (i n:Nat) (hs:s) (h:HD i n s→g:=by
  intro h
  try ((with_unfolding_none refine d0w ?_);refine d5k kp ?_)
  repeat (first
   |exact HD.z h
   |(first
     |refine d2k h rfl rfl (by kernel_rfl) rfl sl rfl va ?_
     |refine c7x h rfl rfl (by kernel_rfl) rfl kp (d6B rfl rfl (by first|exact rfl|assumption)) ?_
     |refine c7x h rfl rfl (by kernel_rfl) rfl kp (y_v rfl va) ?_
     |refine c7x h rfl rfl (by kernel_rfl) rfl kp (a2V rfl rfl (by first|exact rfl|assumption) va) ?_
     |refine c7x h rfl rfl (by kernel_rfl) rfl kp (d4C rfl rfl) ?_);replace h:=HD.p h)):g:=h ⟨hs⟩
theorem dH {g s:Prop} (i n:Nat) (hs:s) (h:HD i n s→g:=by
  intro h
  try ((with_unfolding_none refine d0w ?_);refine d5k kp ?_)
  repeat (first
   |(have h0:=HD.z h;refine d2j h (by kernel_rfl) rfl ?_;exact h0)
   |(first
     |refine d2k h rfl rfl (by kernel_rfl) rfl sl rfl va ?_
     |refine c7x h rfl rfl (by kernel_rfl) rfl kp (d6B rfl rfl (by first|exact rfl|assumption)) ?_
     |refine c7x h rfl rfl (by kernel_rfl) rfl kp (y_v rfl va) ?_
     |refine c7x h rfl rfl (by kernel_rfl) rfl kp (a2V rfl rfl (by first|exact rfl|assumption) va) ?_
     |refine c7x h rfl rfl (by kernel_rfl) rfl kp (d4C rfl rfl) ?_);replace h:=HD.p h)):g:=h ⟨hs⟩
end
section
variable {P:Program} {n:Sz} {E:Ent} {I I':IMap} {L:LL} {H:List Res} {K:Act→World→Prop} {Q:Exit→Act→World→Prop} {ops:Array Oper}
variable {d ty:Nat} {pos:String} {af:Array Edge} {fo:Operand} {as_:List Operand} {ats:Array TypeId} {f:FuncId} {args:List Value}
theorem cV {v:Value} (hc:FnV P f args.toArray I v) (k:SX n E I ((d,v)::L) H K) (h:a1B L fo as_=some (f,args):=by exact rfl) (hd:Nat.blt d n.sz=true:=by exact rfl) :
  SX n E I L H (one P ops Q ⟨some d,.call { callee:=.value fo,args:=as_.toArray,argTypes:=ats },ty,pos,af,none⟩ K):=a0v hc h hd k
end
end Go.Sx
namespace Go.Proofs.YtgmkjpafapgccaaGreat
open Go Go.Sx Tryz
set_option linter.all false
set_option maxRecDepth 20000
set_option maxHeartbeats 4000000
instance:Has (c7s prog 307) (256,5,1):=hk
instance:Has (tyK prog 307) (true,256):=hk
instance:Has (tyK prog 5) (false,1):=hk
instance T.und_3:Has (prog.underlying 3) (.int .i64):=hk
instance T.und_5:Has (prog.underlying 5) (.int .u8):=hk
instance T.und_9:Has (prog.underlying 9) (.string):=hk
instance:Has (a1i prog 307) [.int .u8 0,.int .u8 0,.int .u8 0,.int .u8 0,.int .u8 0,.int .u8 0,.int .u8 0,.int .u8 0,.int .u8 0,.int .u8 0,.int .u8 0,.int .u8 0,.int .u8 0,.int .u8 0,.int .u8 0,.int .u8 0,.int .u8 0,.int .u8 0,.int .u8 0,.int .u8 0,.int .u8 0,.int .u8 0,.int .u8 0,.int .u8 0,.int .u8 0,.int .u8 0,.int .u8 0,.int .u8 0,.int .u8 0,.int .u8 0,.int .u8 0,.int .u8 0,.int .u8 0,.int .u8 0,.int .u8 0,.int .u8 0,.int .u8 0,.int .u8 0,.int .u8 0,.int .u8 0,.int .u8 0,.int .u8 0,.int .u8 0,.int .u8 0,.int .u8 0,.int .u8 0,.int .u8 0,.int .u8 0,.int .u8 0,.int .u8 0,.int .u8 0,.int .u8 0,.int .u8 0,.int .u8 0,.int .u8 0,.int .u8 0,.int .u8 0,.int .u8 0,.int .u8 0,.int .u8 0,.int .u8 0,.int .u8 0,.int .u8 0,.int .u8 0,.int .u8 0,.int .u8 0,.int .u8 0,.int .u8 0,.int .u8 0,.int .u8 0,.int .u8 0,.int .u8 0,.int .u8 0,.int .u8 0,.int .u8 0,.int .u8 0,.int .u8 0,.int .u8 0,.int .u8 0,.int .u8 0,.int .u8 0,.int .u8 0,.int .u8 0,.int .u8 0,.int .u8 0,.int .u8 0,.int .u8 0,.int .u8 0,.int .u8 0,.int .u8 0,.int .u8 0,.int .u8 0,.int .u8 0,.int .u8 0,.int .u8 0,.int .u8 0,.int .u8 0,.int .u8 0,.int .u8 0,.int .u8 0,.int .u8 0,.int .u8 0,.int .u8 0,.int .u8 0,.int .u8 0,.int .u8 0,.int .u8 0,.int .u8 0,.int .u8 0,.int .u8 0,.int .u8 0,.int .u8 0,.int .u8 0,.int .u8 0,.int .u8 0,.int .u8 0,.int .u8 0,.int .u8 0,.int .u8 0,.int .u8 0,.int .u8 0,.int .u8 0,.int .u8 0,.int .u8 0,.int .u8 0,.int .u8 0,.int .u8 0,.int .u8 0,.int .u8 0,.int .u8 0,.int .u8 0,.int .u8 0,.int .u8 0,.int .u8 0,.int .u8 0,.int .u8 0,.int .u8 0,.int .u8 0,.int .u8 0,.int .u8 0,.int .u8 0,.int .u8 0,.int .u8 0,.int .u8 0,.int .u8 0,.int .u8 0,.int .u8 0,.int .u8 0,.int .u8 0,.int .u8 0,.int .u8 0,.int .u8 0,.int .u8 0,.int .u8 0,.int .u8 0,.int .u8 0,.int .u8 0,.int .u8 0,.int .u8 0,.int .u8 0,.int .u8 0,.int .u8 0,.int .u8 0,.int .u8 0,.int .u8 0,.int .u8 0,.int .u8 0,.int .u8 0,.int .u8 0,.int .u8 0,.int .u8 0,.int .u8 0,.int .u8 0,.int .u8 0,.int .u8 0,.int .u8 0,.int .u8 0,.int .u8 0,.int .u8 0,.int .u8 0,.int .u8 0,.int .u8 0,.int .u8 0,.int .u8 0,.int .u8 0,.int .u8 0,.int .u8 0,.int .u8 0,.int .u8 0,.int .u8 0,.int .u8 0,.int .u8 0,.int .u8 0,.int .u8 0,.int .u8 0,.int .u8 0,.int .u8 0,.int .u8 0,.int .u8 0,.int .u8 0,.int .u8 0,.int .u8 0,.int .u8 0,.int .u8 0,.int .u8 0,.int .u8 0,.int .u8 0,.int .u8 0,.int .u8 0,.int .u8 0,.int .u8 0,.int .u8 0,.int .u8 0,.int .u8 0,.int .u8 0,.int .u8 0,.int .u8 0,.int .u8 0,.int .u8 0,.int .u8 0,.int .u8 0,.int .u8 0,.int .u8 0,.int .u8 0,.int .u8 0,.int .u8 0,.int .u8 0,.int .u8 0,.int .u8 0,.int .u8 0,.int .u8 0,.int .u8 0,.int .u8 0,.int .u8 0,.int .u8 0,.int .u8 0,.int .u8 0,.int .u8 0,.int .u8 0,.int .u8 0,.int .u8 0,.int .u8 0,.int .u8 0,.int .u8 0,.int .u8 0,.int .u8 0,.int .u8 0,.int .u8 0,.int .u8 0,.int .u8 0,.int .u8 0,.int .u8 0,.int .u8 0,.int .u8 0,.int .u8 0,.int .u8 0]:=hk
theorem b7d (I:IMap) (c:UInt8) :
    FnV prog 335 #[.int .u8 (c.toNat:Int)] I (.bool (a2Y c)):=by
 refine enter func335 call335 rfl ntmps335 rfl fun w0=>?_;refine gS 10 5 (fun h5 p5=>?_) fun h5 p5=>?_
 ·refine gS 4 9 (fun h9 p9=>?_) fun h9 p9=>?_
  ·refine go 12 ?_;exact q_v (by simp[a2Y,h5,h9])
  ·refine gS 3 12 (fun h12 p12=>?_) fun h12 p12=>?_
   ·refine go 9 ?_;exact q_v (by simp[a2Y,h5,h9,h12])
   ·refine go 9 ?_;exact q_v (by simp[a2Y,h5,h9,h12])
 ·refine gS 7 12 (fun h12 p12=>?_) fun h12 p12=>?_
  ·refine go 9 ?_;exact q_v (by simp[a2Y,h5,h12])
  ·refine go 9 ?_;exact q_v (by simp[a2Y,h5,h12])
theorem c8P (I:IMap) (c:UInt8) :
    FnV prog 350 #[.int .u8 (c.toNat:Int)] I (.bool (a2H c)):=by
 refine enter func350 call350 rfl ntmps350 rfl fun w0=>?_;refine gS 10 5 (fun h5 p5=>?_) fun h5 p5=>?_
 ·refine go 8 ?_;exact q_v (by simp[a2H,h5])
 ·refine go 8 ?_;exact q_v (by simp[a2H,h5])
theorem d4A (I:IMap) (c:UInt8) :
    FnV prog 334 #[.int .u8 (c.toNat:Int)] I (.bool (a7b c)):=by
 refine enter func334 call334 rfl ntmps334 rfl fun w0=>?_;refine go 9 ?_;refine cV (b7d _ c) ?_;refine gS 1 5 (fun h5 p5=>?_) fun h5 p5=>?_
 ·refine go 12 ?_;exact q_v (by simp[a7b,h5])
 ·refine go 2 ?_;refine a0q rfl rfl h5 (a0v (c8P _ c) rfl rfl ?_);refine gS 2 9 (fun h9 p9=>?_) fun h9 p9=>?_
  ·refine go 8 ?_;exact q_v (by simp[a7b,h5,h9])
  ·refine go 8 ?_;exact q_v (by simp[a7b,h5,h9])
theorem b3U (I:IMap) (s:ByteArray) (hs:s.size≤9223372036854775807) :
    FnV prog 306 #[.string s] I (.bool (a3o s)):=by
 refine enter func306 call306 rfl ntmps306 rfl fun w0=>?_;refine go 12 ?_
 refine a0x (α:=Nat) 0 (fun i=>I)
  (fun i=>[(0,.string s),(3,.int .i64 (i:Int))])
  (fun i=>[])
  (fun i=>i≤s.size∧a8j s i=true)
  (fun i=>s.size-i) ⟨Nat.zero_le _,rfl⟩ rfl sb rfl ?_
 intro i ⟨hi,hn⟩;refine gC 9 (fun h7 p7=>?_) fun h7 p7=>?_
 ·refine go 8 ?_;refine o_v rfl (c3A he rfl rfl i oM oM) ?_;refine go 1 ?_;refine cV (d4A _ _) ?_;refine gC 3 (fun h14 p14=>?_) fun h14 p14=>?_
  ·refine go 12 ?_;exact q_v (by simp[a3o,c3I (show i<s.size from oM) p14])
  ·refine go 9 ?_;exact a0w (i+1) ⟨oM,b9K hn p14⟩ oM rfl sb rfl
 ·refine gS 11 18 (fun h18 p18=>?_) fun h18 p18=>?_
  ·refine gS 5 23 (fun h23 p23=>?_) fun h23 p23=>?_
   ·refine go 1 ?_;refine a0A (a0q rfl rfl h23 (a0t rfl (c3A he rfl rfl 0 oM oM) ?_));refine go 1 ?_;refine a0q rfl rfl h23 (a0v (b7d _ _) rfl rfl ?_);refine go 6 ?_;exact q_v (by have e:i=s.size:=oM;subst e;simp only[a3o,hn,h7,h18,h23,bS])
   ·refine go 9 ?_;exact q_v (by have e:i=s.size:=oM;subst e;simp only[a3o,hn,h7,h18,h23,bS])
  ·refine go 14 ?_;exact q_v (by have e:i=s.size:=oM;subst e;simp only[a3o,hn,h7,h18,bS])
theorem a6C (args:Array Value) (w:World):(callFunc 339 args).run prog w=((Extern.BytealgIndexByte.indexByte args).run prog w).andThen fun v w'=>.ok (.value v) w':=by
 have h1:Extern.findNext Tryz.f339=none:=by kernel_rfl
 have h2:Extern.find Tryz.f339=some Extern.BytealgIndexByte.indexByte:=by kernel_rfl
 have h3 : (Tryz.f339.name == "runtime.NumGoroutine") = false := by kernel_rfl
 have h4:Tryz.f339.body.isNone=true:=rfl
 simp only[callFunc,Sem.run_bind,run_program,Result.andThen_ok,func339,h3,h4,h1,h2]
 simp
theorem a9E (I:IMap) (s:ByteArray) (c:UInt8):FnV prog 339 #[.string s,.int .u8 (c.toNat:Int)] I (.int .i64 (Lib.indexByte s.data.toList c)):=by
 refine⟨fun w m=>?_⟩;unfold After;rw[a6C,Lib.run_indexByteString];exact⟨_,I,[],rfl,m,by simp,rfl,rfl⟩
theorem b2h (I:IMap) (s:ByteArray) (c:UInt8) :
    FnV prog 314 #[.string s,.int .u8 (c.toNat:Int)] I (.int .i64 (Lib.indexByte s.data.toList c)):=by
 refine enter func314 call314 rfl ntmps314 rfl fun w0=>?_;refine go 10 ?_;refine cV (a9E I s c) ?_;refine go 5 ?_;exact q_v rfl
theorem indexByte (I:IMap) (s:ByteArray) (c:UInt8) :
    FnV prog 267 #[.string s,.int .u8 (c.toNat:Int)] I (.int .i64 (Lib.indexByte s.data.toList c)):=by
 refine enter func267 call267 rfl ntmps267 rfl fun w0=>?_;refine go 10 ?_;refine cV (b2h I s c) ?_;refine go 5 ?_;exact q_v rfl
theorem c8y (I:IMap) :
    FnV prog 200 #[] I (.agg clsTab.toArray):=by
 refine enter func200 call200 rfl ntmps200 rfl fun w0=>?_;refine go 4 fun g0=>?_
 refine go 6 fun g1=>?_
 refine go 9 ?_
 refine a0x (α:=Nat) 0 (fun i=>I)
  (fun i=>[(1,.pointer (some ⟨g1,0,none⟩)),(0,.pointer (some ⟨g0,0,none⟩)),(4,.int .i64 (i:Int))])
  (fun i=>[.blk g1 307 (a3D i),.blk g0 307 (a3D 0)])
  (fun i=>i≤256)
  (fun i=>256-i) oM rfl sb rfl ?_
 intro i hi;refine gC 6 (fun h5 p5=>?_) fun h5 p5=>?_
 ·have hlt:i<256:=oM;have hb:((i.toUInt8.toNat:Nat):Int)=(i:Int):=by simp;omega
  refine go 3 ?_;refine a1N (I':=I) (L':=[(1,.pointer (some ⟨g1,0,none⟩)),(0,.pointer (some ⟨g0,0,none⟩)),(4,.int .i64 (i:Int))]) (H':=[.blk g1 307 (a3D (i+1)),.blk g0 307 (a3D 0)]) ?_ ?_
  ·refine go 10 ?_;refine o_v rfl (a1K he he rfl (m:=((i.toUInt8.toNat:Nat):Int)) (by rw[hb];exact c3K i hlt)) ?_;refine go 5 ?_;refine c0h (L':=[(1,.pointer (some ⟨g1,0,none⟩)),(0,.pointer (some ⟨g0,0,none⟩)),(4,.int .i64 (i:Int)),(2,.int .i64 (i:Int)),(3,.int .u8 (i.toUInt8.toNat:Int)),(9,.bool (a6o i.toUInt8||b0C i.toUInt8))]) ?_ ?_
   ·refine go 1 ?_;refine c0h (L':=[(1,.pointer (some ⟨g1,0,none⟩)),(0,.pointer (some ⟨g0,0,none⟩)),(4,.int .i64 (i:Int)),(2,.int .i64 (i:Int)),(3,.int .u8 (i.toUInt8.toNat:Int)),(9,.bool (a6o i.toUInt8))]) ?_ ?_
    ·refine gS 4 12 (fun h12 p12=>?_) fun h12 p12=>?_
     ·refine go 6 ?_;exact a0o ⟨rfl,rfl,rfl,rfl,rfl,(bB (by simp only[a6o,h5,h12,bS])),trivial⟩ rfl rfl
     ·refine go 6 ?_;exact a0o ⟨rfl,rfl,rfl,rfl,rfl,(bB (by simp only[a6o,h5,h12,bS])),trivial⟩ rfl rfl
    ·refine gC 0 (fun h9 p9=>?_) fun h9 p9=>?_
     ·refine go 2 ?_;exact a0o ⟨rfl,rfl,rfl,rfl,rfl,(bB (by simp only[b0C,h9,bS])),trivial⟩ rfl rfl
     ·refine gS 4 18 (fun h18 p18=>?_) fun h18 p18=>?_
      ·refine go 6 ?_;exact a0o ⟨rfl,rfl,rfl,rfl,rfl,(bB (by simp only[b0C,h9,h18,bS])),trivial⟩ rfl rfl
      ·refine go 6 ?_;exact a0o ⟨rfl,rfl,rfl,rfl,rfl,(bB (by simp only[b0C,h9,h18,bS])),trivial⟩ rfl rfl
   ·refine gC 0 (fun h9 p9=>?_) fun h9 p9=>?_
    ·refine go 2 ?_;refine o_v rfl (a7D he rfl rfl i oM oM) ?_;refine go 1 ?_;refine b0N he rfl rfl rfl (by rw[a2O,Nat.blt_eq];omega) ?_;refine go 4 ?_;exact a0o sb (congrArg (fun r=>[Res.blk g1 _ r,_]) (a6O i hlt _ (c8B h9))) rfl
    ·refine go 1 ?_;refine c0h (L':=[(1,.pointer (some ⟨g1,0,none⟩)),(0,.pointer (some ⟨g0,0,none⟩)),(4,.int .i64 (i:Int)),(2,.int .i64 (i:Int)),(3,.int .u8 (i.toUInt8.toNat:Int)),(24,.bool (a2H i.toUInt8))]) ?_ ?_
     ·refine gS 4 27 (fun h27 p27=>?_) fun h27 p27=>?_
      ·refine go 6 ?_;exact a0o ⟨rfl,rfl,rfl,rfl,rfl,(bB (by simp only[a2H,h9,h27,bS])),trivial⟩ rfl rfl
      ·refine go 6 ?_;exact a0o ⟨rfl,rfl,rfl,rfl,rfl,(bB (by simp only[a2H,h9,h27,bS])),trivial⟩ rfl rfl
     ·refine gC 0 (fun h24 p24=>?_) fun h24 p24=>?_
      ·refine go 2 ?_;refine o_v rfl (a7D he rfl rfl i oM oM) ?_;refine go 1 ?_;refine b0N he rfl rfl rfl (by rw[a2O,Nat.blt_eq];omega) ?_;refine go 4 ?_;exact a0o sb (congrArg (fun r=>[Res.blk g1 _ r,_]) (a6O i hlt _ (c8C h9 h24))) rfl
      ·refine go 4 ?_;refine cV (indexByte I _ i.toUInt8) ?_;refine gC 4 (fun h33 p33=>?_) fun h33 p33=>?_
       ·refine go 2 ?_;refine o_v rfl (a7D he rfl rfl i oM oM) ?_;refine go 1 ?_;refine b0N he rfl rfl rfl (by rw[a2O,Nat.blt_eq];omega) ?_;refine go 4 ?_;exact a0o sb (congrArg (fun r=>[Res.blk g1 _ r,_]) (a6O i hlt _ (c8A h9 h24 h33))) rfl
       ·refine go 4 ?_;refine cV (indexByte I _ i.toUInt8) ?_;refine gC 4 (fun h39 p39=>?_) fun h39 p39=>?_
        ·refine go 2 ?_;refine o_v rfl (a7D he rfl rfl i oM oM) ?_;refine go 1 ?_;refine b0N he rfl rfl rfl (by rw[a2O,Nat.blt_eq];omega) ?_;refine go 4 ?_;exact a0o sb (congrArg (fun r=>[Res.blk g1 _ r,_]) (a6O i hlt _ (c8D h9 h24 h33 h39))) rfl
        ·refine go 4 ?_;exact a0o sb (congrArg (fun r=>[Res.blk g1 _ r,_]) (b4Z i hlt (c8z h9 h24 h33 h39)).symm) rfl
  ·refine go 5 ?_;exact a0w (i+1) oM oM rfl sb rfl
 ·refine go 7 ?_;refine o_v rfl (a7D he rfl rfl 35 rfl oM) ?_;refine go 1 ?_;refine b0N he rfl rfl rfl (by simp only[List.length_set,a2O];rfl) ?_;refine o_v rfl (a7D he rfl rfl 95 rfl oM) ?_;refine go 1 ?_;refine b0N he rfl rfl rfl (by simp only[List.length_set,a2O];rfl) ?_;refine o_v rfl (a7D he rfl rfl 34 rfl oM) ?_;refine go 1 ?_;refine b0N he rfl rfl rfl (by simp only[List.length_set,a2O];rfl) ?_;refine go 6 ?_;refine a0b ?_;refine go 5 ?_;have e:i=256:=oM;subst e;exact q_v rfl
theorem a3n (I:IMap) (s:ByteArray) (hs:s.size≤9223372036854775807) :
    FnV prog 115 #[.string s] I (.bool (a1j s)):=by
 refine enter func115 call115 rfl ntmps115 rfl fun w0=>?_;refine go 8 ?_;refine cV (c8y _) ?_;refine go 2 fun g3=>?_
 refine go 13 ?_
 refine a0x (α:=Nat) 0 (fun i=>I)
  (fun i=>[(0,.string s),(3,.pointer (some ⟨g3,0,none⟩)),(8,.int .i64 (s.size:Int)),(9,.int .i64 (i:Int))])
  (fun i=>[.blk g3 307 clsTab])
  (fun i=>i≤s.size∧a7I s i=true)
  (fun i=>s.size-i) ⟨Nat.zero_le _,rfl⟩ rfl sb rfl ?_
 intro i ⟨hi,hn⟩;refine gC 6 (fun h10 p10=>?_) fun h10 p10=>?_
 ·refine go 14 ?_;refine o_v rfl (c3A he rfl rfl i oM oM) ?_;refine o_v rfl (a7D he rfl rfl (s[i]!).toNat rfl (s[i]!).toNat_lt) ?_;refine o_v rfl (b2S m0 he rfl (by rw[show 0+(s[i]!).toNat * 1=(s[i]!).toNat from by omega];exact c0s _)) ?_;refine gS 8 19 (fun h19 p19=>?_) fun h19 p19=>?_
  ·refine gS 3 22 (fun h22 p22=>?_) fun h22 p22=>?_
   ·refine go 23 ?_;exact q_v (by simp only[a1j,b3m (show i<s.size from oM) (show a2G s i=false by simp only[a2G,←(a4h _).1,←(a4h _).2.1,←(a4h _).2.2];simp_all),bS])
   ·refine gS 3 25 (fun h25 p25=>?_) fun h25 p25=>?_
    ·refine gC 7 (fun h30 p30=>?_) fun h30 p30=>?_
     ·refine go 12 ?_;exact q_v (by simp only[a1j,b3m (show i<s.size from oM) (show a2G s i=false by simp only[a2G,←(a4h _).1,←(a4h _).2.1,←(a4h _).2.2];simp_all),bS])
     ·refine go 8 ?_;exact a0w (i+1) ⟨oM,a7J hn (by simp only[a2G,←(a4h _).1,←(a4h _).2.1,←(a4h _).2.2];simp_all)⟩ oM rfl sb rfl
    ·refine go 16 ?_;exact a0w (i+1) ⟨oM,a7J hn (by simp only[a2G,←(a4h _).1,←(a4h _).2.1,←(a4h _).2.2];simp_all)⟩ oM rfl sb rfl
  ·refine go 22 ?_;exact a0w (i+1) ⟨oM,a7J hn (by simp only[a2G,←(a4h _).1,←(a4h _).2.1,←(a4h _).2.2];simp_all)⟩ oM rfl sb rfl
 ·refine gS 10 34 (fun h34 p34=>?_) fun h34 p34=>?_
  ·refine go 9 ?_;have e:i=s.size:=oM;subst e;exact q_v (by simp only[a1j,hn,h10,h34,bS])
  ·refine go 9 ?_;have e:i=s.size:=oM;subst e;exact q_v (by simp only[a1j,hn,h10,h34,bS])
end Go.Proofs.YtgmkjpafapgccaaGreat
namespace Go.Proofs.YtgmkjpafapgccaaGreat
open Go Go.Sx Tryz
set_option linter.all false
set_option maxRecDepth 20000
set_option maxHeartbeats 4000000
instance:Has (a6q prog 147) (189,3):=hk
instance:Has (a6q prog 22) (149,3):=hk
instance:Has (a6q prog 60) (85,14):=hk
instance:Has (a6q prog 72) (130,14):=hk
instance:Has (a6q prog 88) (9,1):=hk
instance:Has (a1g prog 149 0) (0,false,1):=hk
instance:Has (a1g prog 149 1) (1,false,1):=hk
instance:Has (a1g prog 149 2) (2,false,1):=hk
instance:Has (a1g prog 189 0) (0,false,1):=hk
instance:Has (a1g prog 189 1) (1,false,1):=hk
instance:Has (a1g prog 189 2) (2,false,1):=hk
instance:Has (a1g prog 24 0) (0,false,1):=hk
theorem T.mixed:prog.follows .mixedOrders=true:=by kernel_rfl
instance:Has (plK prog 149) [(0,1),(1,1),(2,1)]:=hk
instance:Has (plK prog 189) [(0,1),(1,1),(2,1)]:=hk
instance:Has (tyK prog 130) (true,14):=hk
instance:Has (tyK prog 147) (false,1):=hk
instance:Has (tyK prog 149) (true,3):=hk
instance:Has (tyK prog 189) (true,3):=hk
instance:Has (tyK prog 22) (false,1):=hk
instance:Has (tyK prog 24) (true,1):=hk
instance:Has (tyK prog 249) (false,1):=hk
instance:Has (tyK prog 3) (false,1):=hk
instance:Has (tyK prog 369) (false,1):=hk
instance:Has (tyK prog 4) (false,1):=hk
instance:Has (tyK prog 85) (true,14):=hk
instance:Has (tyK prog 88) (false,1):=hk
instance:Has (tyK prog 9) (false,1):=hk
instance T.und_147:Has (prog.underlying 147) (.slice 189):=hk
instance:Has (prog.underlying 215) (.map 9 4):=hk
instance T.und_22:Has (prog.underlying 22) (.slice 149):=hk
instance:Has (prog.underlying 60) (.slice 85):=hk
instance T.und_72:Has (prog.underlying 72) (.slice 130):=hk
instance T.und_88:Has (prog.underlying 88) (.slice 9):=hk
instance:Has (a1i prog 149) [.string ⟨#[]⟩,.bool false,.slice none 0 0]:=hk
instance:Has (a1i prog 189) [.string ⟨#[]⟩,.slice none 0 0,.int .i64 0]:=hk
instance:Has (zvK prog 4) (.bool false):=hk
theorem b3O (I:IMap) (x:Int) :
    FnV prog 202 #[.int .i64 x] I (.bool false):=by
 refine enter func202 call202 rfl ntmps202 rfl fun w0=>?_;refine go 15 ?_;exact q_v (by simp)
theorem a8n (I:IMap) (x:ByteArray) :
    FnV prog 223 #[.string x] I (.bool false):=by
 refine enter func223 call223 rfl ntmps223 rfl fun w0=>?_;refine go 15 ?_;exact q_v (by simp)
theorem a9s (I:IMap) (x y:Int) :
    FnV prog 121 #[.int .i64 x,.int .i64 y] I (.int .i64 (a8F x y)):=by
 refine enter func121 call121 rfl ntmps121 rfl fun w0=>?_;refine go 9 ?_;refine cV (b3O I x) ?_;refine go 7 ?_;refine cV (b3O I y) ?_;refine gC 29 (fun h16 p16=>?_) fun h16 p16=>?_
 ·refine go 8 ?_;exact q_v (by unfold a8F;simp only[p16,if_true])
 ·refine gC 10 (fun h19 p19=>?_) fun h19 p19=>?_
  ·refine go 8 ?_;exact q_v (by unfold a8F;simp only[p16,p19,if_true,if_false])
  ·refine go 9 ?_;exact q_v (by unfold a8F;simp only[p16,p19,if_false])
theorem a3x (I:IMap) (x y:ByteArray) :
    FnV prog 147 #[.string x,.string y] I (.int .i64 (a8G x y)):=by
 refine enter func147 call147 rfl ntmps147 rfl fun w0=>?_;refine go 9 ?_;refine cV (a8n I x) ?_;refine go 7 ?_;refine cV (a8n I y) ?_;refine gC 29 (fun h16 p16=>?_) fun h16 p16=>?_
 ·refine go 8 ?_;exact q_v (by unfold a8G;rw[if_pos h16])
 ·refine gC 10 (fun h19 p19=>?_) fun h19 p19=>?_
  ·refine go 8 ?_;exact q_v (by unfold a8G;rw[if_neg (by rw[h16];decide),if_pos h19])
  ·refine go 9 ?_;exact q_v (by unfold a8G;rw[if_neg (by rw[h16];decide),if_neg (by rw[h19];decide)])
theorem b0G (I:IMap) (v:Value) (l:List Kind) (hv:RdS I v l) (f:FuncId) (cs:List Value) (p:Kind→Bool) (hp:∀x∈l,∀vs,Enc.rd I vs x→FnV prog f ([Value.agg vs.toArray]++cs).toArray I (.bool (p x))) :
    FnV prog 218 #[v,.func (.func f) #[] cs.toArray] I (.int .i64 (a4u p l)):=by
 obtain⟨A,c,rfl,hA,hc,hm⟩:=hv;refine enter func218 call218 rfl ntmps218 rfl fun w0=>?_;refine go 14 ?_
 refine a0x (α:=Nat) 0 (fun i=>I)
  (fun i=>[(0,.slice A l.length c),(1,.func (.func f) #[] cs.toArray),(7,.int .i64 (l.length:Int)),(8,.int .i64 (i:Int))])
  (fun i=>[])
  (fun i=>i≤l.length∧∀j x,j<i→l[j]? = some x→p x=false)
  (fun i=>l.length-i) ⟨Nat.zero_le _,fun j x hj=>absurd hj (Nat.not_lt_zero j)⟩ rfl sb rfl ?_
 intro i ⟨hi,hn⟩;refine gC 6 (fun h9 p9=>?_) fun h9 p9=>?_
 ·have hlt:i<l.length:=oM;refine go 15 ?_;obtain⟨b14,o14,w14,e14,c14,r14⟩:=RdA.at_ hA (i:=i) hlt;refine go 1 ?_;refine o_v rfl (a0V he rfl c14 (Enc.len r14)) ?_;refine go 1 ?_;refine cV (hp _ (List.getElem_mem hlt) _ r14) ?_;refine gC 2 (fun h16 p16=>?_) fun h16 p16=>?_
  ·refine go 13 ?_;exact q_v (congrArg (Value.int .i64) (a1z hlt p16 hn).symm)
  ·refine go 8 ?_;exact a0w (i+1) ⟨oM,a1E hn hlt p16⟩ oM rfl sb rfl
 ·refine go 12 ?_;exact q_v (congrArg (Value.int .i64) (a1T (fun j x hj=>hn j x oM)).symm)
theorem b0I (I:IMap) (v:Value) (l:List Slot) (hv:RdS I v l) (f:FuncId) (cs:List Value) (p:Slot→Bool) (hp:∀x∈l,∀vs,Enc.rd I vs x→FnV prog f ([Value.agg vs.toArray]++cs).toArray I (.bool (p x))) :
    FnV prog 304 #[v,.func (.func f) #[] cs.toArray] I (.int .i64 (a4u p l)):=by
 obtain⟨A,c,rfl,hA,hc,hm⟩:=hv;refine enter func304 call304 rfl ntmps304 rfl fun w0=>?_;refine go 14 ?_
 refine a0x (α:=Nat) 0 (fun i=>I)
  (fun i=>[(0,.slice A l.length c),(1,.func (.func f) #[] cs.toArray),(7,.int .i64 (l.length:Int)),(8,.int .i64 (i:Int))])
  (fun i=>[])
  (fun i=>i≤l.length∧∀j x,j<i→l[j]? = some x→p x=false)
  (fun i=>l.length-i) ⟨Nat.zero_le _,fun j x hj=>absurd hj (Nat.not_lt_zero j)⟩ rfl sb rfl ?_
 intro i ⟨hi,hn⟩;refine gC 6 (fun h9 p9=>?_) fun h9 p9=>?_
 ·have hlt:i<l.length:=oM;refine go 15 ?_;obtain⟨b14,o14,w14,e14,c14,r14⟩:=RdA.at_ hA (i:=i) hlt;refine go 1 ?_;refine o_v rfl (a0V he rfl c14 (Enc.len r14)) ?_;refine go 1 ?_;refine cV (hp _ (List.getElem_mem hlt) _ r14) ?_;refine gC 2 (fun h16 p16=>?_) fun h16 p16=>?_
  ·refine go 13 ?_;exact q_v (congrArg (Value.int .i64) (a1z hlt p16 hn).symm)
  ·refine go 8 ?_;exact a0w (i+1) ⟨oM,a1E hn hlt p16⟩ oM rfl sb rfl
 ·refine go 12 ?_;exact q_v (congrArg (Value.int .i64) (a1T (fun j x hj=>hn j x oM)).symm)
theorem b0H (I:IMap) (v:Value) (l:List Part) (hv:RdS I v l) (f:FuncId) (cs:List Value) (p:Part→Bool) (hp:∀x∈l,∀vs,Enc.rd I vs x→FnV prog f ([Value.agg vs.toArray]++cs).toArray I (.bool (p x))) :
    FnV prog 209 #[v,.func (.func f) #[] cs.toArray] I (.int .i64 (a4u p l)):=by
 obtain⟨A,c,rfl,hA,hc,hm⟩:=hv;refine enter func209 call209 rfl ntmps209 rfl fun w0=>?_;refine go 14 ?_
 refine a0x (α:=Nat) 0 (fun i=>I)
  (fun i=>[(0,.slice A l.length c),(1,.func (.func f) #[] cs.toArray),(7,.int .i64 (l.length:Int)),(8,.int .i64 (i:Int))])
  (fun i=>[])
  (fun i=>i≤l.length∧∀j x,j<i→l[j]? = some x→p x=false)
  (fun i=>l.length-i) ⟨Nat.zero_le _,fun j x hj=>absurd hj (Nat.not_lt_zero j)⟩ rfl sb rfl ?_
 intro i ⟨hi,hn⟩;refine gC 6 (fun h9 p9=>?_) fun h9 p9=>?_
 ·have hlt:i<l.length:=oM;refine go 15 ?_;obtain⟨b14,o14,w14,e14,c14,r14⟩:=RdA.at_ hA (i:=i) hlt;refine go 1 ?_;refine o_v rfl (a0V he rfl c14 (Enc.len r14)) ?_;refine go 1 ?_;refine cV (hp _ (List.getElem_mem hlt) _ r14) ?_;refine gC 2 (fun h16 p16=>?_) fun h16 p16=>?_
  ·refine go 13 ?_;exact q_v (congrArg (Value.int .i64) (a1z hlt p16 hn).symm)
  ·refine go 8 ?_;exact a0w (i+1) ⟨oM,a1E hn hlt p16⟩ oM rfl sb rfl
 ·refine go 12 ?_;exact q_v (congrArg (Value.int .i64) (a1T (fun j x hj=>hn j x oM)).symm)
theorem a4U (I:IMap) (v:Value) (l:List Part) (hv:RdS I v l) (f:FuncId) (cs:List Value) (p:Part→Bool) (hp:∀x∈l,∀vs,Enc.rd I vs x→FnV prog f ([Value.agg vs.toArray]++cs).toArray I (.bool (p x))) :
    FnV prog 129 #[v,.func (.func f) #[] cs.toArray] I (.bool (l.any p)):=by
 refine enter func129 call129 rfl ntmps129 rfl fun w0=>?_;refine go 10 ?_;refine cV (b0H I v l hv f cs p hp) ?_;refine go 6 ?_;exact q_v (congrArg Value.bool (a2F p l))
theorem b2i (I:IMap) (v:Value) (l:List Evt) (hv:RdS I v l) (f:FuncId) (cs:List Value) (p:Evt→Bool) (hp:∀x∈l,∀vs,Enc.rd I vs x→FnV prog f ([Value.agg vs.toArray]++cs).toArray I (.bool (p x))) :
    FnV prog 118 #[v,.func (.func f) #[] cs.toArray] I (.int .i64 (a4u p l)):=by
 obtain⟨A,c,rfl,hA,hc,hm⟩:=hv;refine enter func118 call118 rfl ntmps118 rfl fun w0=>?_;refine go 14 ?_
 refine a0x (α:=Nat) 0 (fun i=>I)
  (fun i=>[(0,.slice A l.length c),(1,.func (.func f) #[] cs.toArray),(7,.int .i64 (l.length:Int)),(8,.int .i64 (i:Int))])
  (fun i=>[])
  (fun i=>i≤l.length∧∀j x,j<i→l[j]? = some x→p x=false)
  (fun i=>l.length-i) ⟨Nat.zero_le _,fun j x hj=>absurd hj (Nat.not_lt_zero j)⟩ rfl sb rfl ?_
 intro i ⟨hi,hn⟩;refine gC 6 (fun h9 p9=>?_) fun h9 p9=>?_
 ·have hlt:i<l.length:=oM;refine go 15 ?_;obtain⟨b14,o14,w14,e14,c14,r14⟩:=RdA.at_ hA (i:=i) hlt;refine go 1 ?_;refine o_v rfl (a0V he rfl c14 (Enc.len r14)) ?_;refine go 1 ?_;refine cV (hp _ (List.getElem_mem hlt) _ r14) ?_;refine gC 2 (fun h16 p16=>?_) fun h16 p16=>?_
  ·refine go 13 ?_;exact q_v (congrArg (Value.int .i64) (a1z hlt p16 hn).symm)
  ·refine go 8 ?_;exact a0w (i+1) ⟨oM,a1E hn hlt p16⟩ oM rfl sb rfl
 ·refine go 12 ?_;exact q_v (congrArg (Value.int .i64) (a1T (fun j x hj=>hn j x oM)).symm)
theorem a5p (I:IMap) (v:Value) (l:List ByteArray) (hv:RdS I v l) (f:FuncId) (cs:List Value) (p:ByteArray→Bool) (hp:∀x∈l,∀vs,Enc.rd I vs x→FnV prog f ([Value.string x]++cs).toArray I (.bool (p x))) :
    FnV prog 259 #[v,.func (.func f) #[] cs.toArray] I (.int .i64 (a4u p l)):=by
 obtain⟨A,c,rfl,hA,hc,hm⟩:=hv;refine enter func259 call259 rfl ntmps259 rfl fun w0=>?_;refine go 14 ?_
 refine a0x (α:=Nat) 0 (fun i=>I)
  (fun i=>[(0,.slice A l.length c),(1,.func (.func f) #[] cs.toArray),(7,.int .i64 (l.length:Int)),(8,.int .i64 (i:Int))])
  (fun i=>[])
  (fun i=>i≤l.length∧∀j x,j<i→l[j]? = some x→p x=false)
  (fun i=>l.length-i) ⟨Nat.zero_le _,fun j x hj=>absurd hj (Nat.not_lt_zero j)⟩ rfl sb rfl ?_
 intro i ⟨hi,hn⟩;refine gC 6 (fun h9 p9=>?_) fun h9 p9=>?_
 ·have hlt:i<l.length:=oM;refine go 15 ?_;obtain⟨b14,o14,w14,e14,c14,r14⟩:=RdA.at_ hA (i:=i) hlt;obtain rfl:=r14;refine go 3 ?_;refine cV (hp _ (List.getElem_mem hlt) _ rfl) ?_;refine gC 2 (fun h16 p16=>?_) fun h16 p16=>?_
  ·refine go 13 ?_;exact q_v (congrArg (Value.int .i64) (a1z hlt p16 hn).symm)
  ·refine go 8 ?_;exact a0w (i+1) ⟨oM,a1E hn hlt p16⟩ oM rfl sb rfl
 ·refine go 12 ?_;exact q_v (congrArg (Value.int .i64) (a1T (fun j x hj=>hn j x oM)).symm)
theorem a6B (I:IMap) (v:Value) (l:List ByteArray) (hv:RdS I v l) (f:FuncId) (cs:List Value) (p:ByteArray→Bool) (hp:∀x∈l,∀vs,Enc.rd I vs x→FnV prog f ([Value.string x]++cs).toArray I (.bool (p x))) :
    FnV prog 189 #[v,.func (.func f) #[] cs.toArray] I (.bool (l.any p)):=by
 refine enter func189 call189 rfl ntmps189 rfl fun w0=>?_;refine go 10 ?_;refine cV (a5p I v l hv f cs p hp) ?_;refine go 6 ?_;exact q_v (congrArg Value.bool (a2F p l))
theorem a8m (I:IMap) (v:Value) (l:List ByteArray) (hv:RdS I v l) (s:ByteArray) :
    FnV prog 136 #[v,.string s] I (.int .i64 (a4u (fun x=>decide (s=x)) l)):=by
 obtain⟨A,c,rfl,hA,hc,hm⟩:=hv;refine enter func136 call136 rfl ntmps136 rfl fun w0=>?_;refine go 14 ?_
 refine a0x (α:=Nat) 0 (fun i=>I)
  (fun i=>[(0,.slice A l.length c),(1,.string s),(7,.int .i64 (l.length:Int)),(8,.int .i64 (i:Int))])
  (fun i=>[])
  (fun i=>i≤l.length∧∀j x,j<i→l[j]? = some x→(fun x=>decide (s=x)) x=false)
  (fun i=>l.length-i) ⟨Nat.zero_le _,fun j x hj=>absurd hj (Nat.not_lt_zero j)⟩ rfl sb rfl ?_
 intro i ⟨hi,hn⟩;refine gC 6 (fun h9 p9=>?_) fun h9 p9=>?_
 ·have hlt:i<l.length:=oM;refine go 15 ?_;obtain⟨b14,o14,w14,e14,c14,r14⟩:=RdA.at_ hA (i:=i) hlt;obtain rfl:=r14;refine gC 5 (fun h16 p16=>?_) fun h16 p16=>?_
  ·refine go 13 ?_;exact q_v (congrArg (Value.int .i64) (a1z (p:=fun x=>decide (s=x)) hlt h16 hn).symm)
  ·refine go 8 ?_;exact a0w (i+1) ⟨oM,a1E (p:=fun x=>decide (s=x)) hn hlt h16⟩ oM rfl sb rfl
 ·refine go 12 ?_;exact q_v (congrArg (Value.int .i64) (a1T (p:=fun x=>decide (s=x)) (fun j x hj=>hn j x oM)).symm)
theorem a2W (I:IMap) (v:Value) (l:List ByteArray) (hv:RdS I v l) (s:ByteArray) :
    FnV prog 60 #[v,.string s] I (.bool (decide (s∈l))):=by
 refine enter func60 call60 rfl ntmps60 rfl fun w0=>?_;refine go 10 ?_;refine cV (a8m I v l hv s) ?_;refine go 6 ?_;exact q_v (congrArg Value.bool ((a2F _ l).trans (c8h s l)))
theorem c5j (I:IMap) (k:Kind) (vs:List Value) (h:Enc.rd I vs k) :
    FnV prog 142 #[.agg vs.toArray] I (.string k.name):=by
 obtain⟨ss,rfl,hs⟩:=h;refine enter func142 call142 rfl ntmps142 rfl fun w0=>?_;refine go 4 fun g1=>?_
 refine go 12 ?_;exact q_v rfl
theorem c6y (I:IMap) (k:Slot) (vs:List Value) (h:Enc.rd I vs k) :
    FnV prog 257 #[.agg vs.toArray] I (.string k.name):=by
 obtain⟨ss,rfl,hs⟩:=h;refine enter func257 call257 rfl ntmps257 rfl fun w0=>?_;refine go 4 fun g1=>?_
 refine go 12 ?_;exact q_v rfl
theorem b5w (I:IMap) (k:Kind) (vs:List Value) (h:Enc.rd I vs k) (fn:FuncId) (nm:Kind→ByteArray) (s:ByteArray) (hn:FnV prog fn #[.agg vs.toArray] I (.string (nm k))) (g1 g2:Nat) (c1:ICells I g1 0 [.func (.func fn) #[] #[]]) (c2:ICells I g2 0 [.string s]) :
    FnV prog 219 #[.agg vs.toArray,.pointer (some ⟨g1,0,none⟩),.pointer (some ⟨g2,0,none⟩)] I (.bool (decide (nm k=s))):=by
 have hl:=Enc.len h;refine enter func219 call219 rfl ntmps219 rfl fun w0=>?_;refine go 4 fun g3=>?_
 refine go 5 ?_;refine dG 0 1 ?_;refine a0I 1 rfl rfl (by kernel_rfl) rfl (.refl _) rfl (a3f m0 he rfl hl) ?_;refine dG 3 1 ?_;refine dH 2 0 ?_;refine cV (hn) ?_;refine dG 4 2 ?_;refine go 4 ?_;exact q_v rfl
theorem b8G (I:IMap) (v:Value) (l:List Kind) (hv:RdS I v l) (fn:FuncId) (nm:Kind→ByteArray) (s:ByteArray) (hn:∀J,ILe I J→∀x∈l,∀vs,Enc.rd J vs x→FnV prog fn #[.agg vs.toArray] J (.string (nm x))) :
    FnV prog 141 #[v,.func (.func fn) #[] #[],.string s] I (.int .i64 (a4u (fun x=>decide (nm x=s)) l)):=by
 refine enter func141 call141 rfl ntmps141 rfl fun w0=>?_;refine go 4 fun g4=>?_
 refine go 2 fun g5=>?_
 refine go 6 ?_;refine a0b ?_;refine a0B fun Ig4 jg4 cg4=>?_;refine a0B fun Ig5 jg5 cg5=>?_;refine go 2 ?_;refine cV (b0G _ v l (hv.le (jg4.trans jg5)) _ [.pointer (some ⟨g4,0,none⟩),.pointer (some ⟨g5,0,none⟩)] (fun x=>decide (nm x=s)) (fun x hx vs hr=>b5w _ x vs hr fn nm s (hn _ (jg4.trans jg5) x hx vs hr) g4 g5 (cg4.le jg5) cg5)) ?_;refine go 5 ?_;exact a8p rfl
theorem b5x (I:IMap) (k:Slot) (vs:List Value) (h:Enc.rd I vs k) (fn:FuncId) (nm:Slot→ByteArray) (s:ByteArray) (hn:FnV prog fn #[.agg vs.toArray] I (.string (nm k))) (g1 g2:Nat) (c1:ICells I g1 0 [.func (.func fn) #[] #[]]) (c2:ICells I g2 0 [.string s]) :
    FnV prog 305 #[.agg vs.toArray,.pointer (some ⟨g1,0,none⟩),.pointer (some ⟨g2,0,none⟩)] I (.bool (decide (nm k=s))):=by
 have hl:=Enc.len h;refine enter func305 call305 rfl ntmps305 rfl fun w0=>?_;refine go 4 fun g3=>?_
 refine go 5 ?_;refine dG 0 1 ?_;refine a0I 1 rfl rfl (by kernel_rfl) rfl (.refl _) rfl (a3f m0 he rfl hl) ?_;refine dG 3 1 ?_;refine dH 2 0 ?_;refine cV (hn) ?_;refine dG 4 2 ?_;refine go 4 ?_;exact q_v rfl
theorem b8H (I:IMap) (v:Value) (l:List Slot) (hv:RdS I v l) (fn:FuncId) (nm:Slot→ByteArray) (s:ByteArray) (hn:∀J,ILe I J→∀x∈l,∀vs,Enc.rd J vs x→FnV prog fn #[.agg vs.toArray] J (.string (nm x))) :
    FnV prog 256 #[v,.func (.func fn) #[] #[],.string s] I (.int .i64 (a4u (fun x=>decide (nm x=s)) l)):=by
 refine enter func256 call256 rfl ntmps256 rfl fun w0=>?_;refine go 4 fun g4=>?_
 refine go 2 fun g5=>?_
 refine go 6 ?_;refine a0b ?_;refine a0B fun Ig4 jg4 cg4=>?_;refine a0B fun Ig5 jg5 cg5=>?_;refine go 2 ?_;refine cV (b0I _ v l (hv.le (jg4.trans jg5)) _ [.pointer (some ⟨g4,0,none⟩),.pointer (some ⟨g5,0,none⟩)] (fun x=>decide (nm x=s)) (fun x hx vs hr=>b5x _ x vs hr fn nm s (hn _ (jg4.trans jg5) x hx vs hr) g4 g5 (cg4.le jg5) cg5)) ?_;refine go 5 ?_;exact a8p rfl
theorem a9q (I:IMap) (v:Value) (l:List Kind) (hv:RdS I v l) (s:ByteArray) :
    FnE prog 67 #[.agg #[v],.string s] I (KindIs I (a7M l s)):=by
 refine enter func67 call67 rfl ntmps67 rfl fun w0=>?_;refine go 4 fun g2=>?_
 refine go 2 fun g4=>?_
 refine go 9 ?_;refine cV (b8G I _ l hv _ Kind.name s (fun J hJ x _ vs hr=>c5j J x vs hr)) ?_;refine gC 10 (fun h12 p12=>?_) fun h12 p12=>?_
 ·have hN:=((a4V (fun x=>decide (Kind.name x=s)) l).resolve_right (by rintro⟨i,hi,e,_⟩;omega)).2;refine go 11 ?_;exact q_e (KindIs.none hN)
 ·obtain⟨i,hi,ei,hF⟩:=(a4V (fun x=>decide (Kind.name x=s)) l).resolve_left (fun h=>oM);refine go 7 ?_;obtain⟨A,c0,rfl,hA,hc,hm⟩:=hv;obtain⟨b17,o17,w17,e17,c17,r17⟩:=RdA.at_ hA (i:=i) hi;obtain⟨q17,rfl,B17,d17,rfl,hB17,hd17,hm17⟩:=r17;refine o_v rfl (a0m he rfl rfl e17 (i) ei hi) ?_;refine go 8 ?_;exact q_e (KindIs.of hF ⟨_,rfl,B17,d17,rfl,hB17,hd17,hm17⟩)
theorem c0m (I:IMap) (v:Value) (l:List Kind) (hv:RdS I v l) (k s:ByteArray) :
    FnE prog 178 #[.agg #[v],.string k,.string s] I (SlotIs I (b4E l k s)):=by
 refine enter func178 call178 rfl ntmps178 rfl fun w0=>?_;refine go 4 fun g3=>?_
 refine go 2 fun g6=>?_
 refine go 8 ?_;refine a1n (a9q I _ l hv k) rfl rfl fun v14 q14=>?_;obtain⟨vs,rfl,ss,rfl,hsl⟩:=q14;refine go 5 fun g8=>?_
 refine go 1 ?_;refine a0Q _ he rfl rfl rfl rfl rfl (by simp[Kind.cells,hsl.one];exact⟨rfl,rfl⟩) ?_;refine go 9 ?_;refine cV (b8H I _ _ hsl _ Slot.name s (fun J hJ x _ vs hr=>c6y J x vs hr)) ?_;refine gC 10 (fun h22 p22=>?_) fun h22 p22=>?_
 ·have hN:=((a4V (fun x=>decide (Slot.name x=s)) ((a7M l k).getD b2Y).slots).resolve_right (by rintro⟨i,hi,e,_⟩;omega)).2;refine go 4 ?_;refine a0b ?_;refine go 7 ?_;exact q_e (SlotIs.none hN)
 ·obtain⟨i,hi,ei,hF⟩:=(a4V (fun x=>decide (Slot.name x=s)) ((a7M l k).getD b2Y).slots).resolve_left (fun h=>oM);obtain⟨A,c0,rfl,hA,hc,hm⟩:=hsl;refine go 7 ?_;obtain⟨b27,o27,w27,e27,c27,r27⟩:=RdA.at_ hA (i:=i) hi;obtain⟨q27,rfl,B27,d27,rfl,hB27,hd27,hm27⟩:=r27;refine o_v rfl (a0m he rfl rfl e27 (i) ei hi) ?_;refine go 2 ?_;refine a0b ?_;refine go 6 ?_;exact q_e (SlotIs.of hF ⟨_,rfl,B27,d27,rfl,hB27,hd27,hm27⟩)
theorem b6B (I:IMap) (v:Value) (l:List Kind) (hv:RdS I v l) (k s p:ByteArray) :
    FnV prog 130 #[.agg #[v],.string k,.string s,.string p] I (.bool (a7B l k s p)):=by
 refine enter func130 call130 rfl ntmps130 rfl fun w0=>?_;refine go 4 fun g4=>?_
 refine go 9 ?_;refine a1n (c0m I _ l hv k s) rfl rfl fun v15 q15=>?_;obtain⟨vs,rfl,ss,rfl,hsl⟩:=q15;refine go 5 fun g9=>?_
 refine go 1 ?_;refine a0Q _ he rfl rfl rfl rfl rfl (by simp[Slot.cells,hsl.one];exact⟨rfl,rfl⟩) ?_;refine gS 7 19 (fun h19 p19=>?_) fun h19 p19=>?_
 ·refine go 4 ?_;refine a0q rfl rfl h19 (a0v (a2W I _ _ hsl p) rfl rfl ?_);refine go 6 ?_;exact q_v (congrArg Value.bool (by revert h19;unfold a7B;cases b4E l k s<;>simp))
 ·refine go 10 ?_;exact q_v (congrArg Value.bool (by revert h19;unfold a7B;cases b4E l k s<;>simp))
theorem a6N (I:IMap) (v:Value) (l:List Kind) (hv:RdS I v l) (hs:SmC l) :
    FnV prog 51 #[.agg #[v]] I (.bool (a2p l)):=by
 obtain⟨A,c0,rfl,hA,hc,hm⟩:=hv;refine enter func51 call51 rfl ntmps51 rfl fun w0=>?_;refine go 4 fun g1=>?_
 refine go 6 ?_;refine a4W (Value.string) he rfl fun r14=>?_;refine go 13 ?_
 refine a0x (α:=Nat) 0 (fun i=>I)
  (fun i=>[(1,.pointer (some ⟨g1,0,none⟩)),(3,.map (some r14)),(16,.slice A l.length c0),(17,.int .i64 (l.length:Int)),(18,.int .i64 (i:Int))])
  (fun i=>[.mp r14 (a1u Value.string (a2x Kind.name (fun k=>Value.bool (!k.vehicle)) (l.take i))),.blk g1 24 [.slice A l.length c0]])
  (fun i=>i≤l.length∧a3A a4a l i=true)
  (fun i=>l.length-i) ⟨Nat.zero_le _,rfl⟩ rfl sb rfl ?_
 intro i ⟨hi,hn⟩;refine gC 6 (fun h19 p19=>?_) fun h19 p19=>?_
 ·have hlt:i<l.length:=oM;refine go 6 ?_;obtain⟨b20,o20,w20,e20,c20,r20⟩:=RdA.at_ hA (i:=i) hlt;obtain⟨q20,rfl,B20,d20,rfl,hB20,hd20,hm20⟩:=r20;refine go 4 fun g5=>?_
  refine go 10 ?_;refine o_v rfl (a8t m1 (a0y he) he he (l[i].name) rfl rfl rfl (c5k _ _ _ _)) ?_;refine go 8 ?_;refine a1N (I':=I) (L':=[(1,.pointer (some ⟨g1,0,none⟩)),(3,.map (some r14)),(16,.slice A l.length c0),(17,.int .i64 (l.length:Int)),(18,.int .i64 (i:Int)),(5,.pointer (some ⟨g5,0,none⟩)),(41,.bool ((hit Kind.name (l.take i) l[i].name || !a1j l[i].name)||decide ((12:Int)<(l[i].slots.length:Nat))))]) (H':=[.blk g5 149 (l[i].cells (.slice B20 l[i].slots.length d20)),.mp r14 (a1u Value.string (a2x Kind.name (fun k=>Value.bool (!k.vehicle)) (l.take i))),.blk g1 24 [.slice A l.length c0]]) ?_ ?_
  ·refine gS 3 30 (fun h30 p30=>?_) fun h30 p30=>?_
   ·refine go 13 ?_;exact a0o ⟨rfl,rfl,rfl,rfl,rfl,rfl,(bB (by simp only[h19,h30,bS])),trivial⟩ rfl rfl
   ·refine go 3 ?_;refine a0q rfl rfl h30 (a0v (a3n _ _ (hs _ (List.getElem_mem hlt)).1) rfl rfl ?_);refine gS 3 36 (fun h36 p36=>?_) fun h36 p36=>?_
    ·refine go 7 ?_;exact a0o ⟨rfl,rfl,rfl,rfl,rfl,rfl,(bB (by simp only[h19,h30,h36,bS])),trivial⟩ rfl rfl
    ·refine go 7 ?_;exact a0o ⟨rfl,rfl,rfl,rfl,rfl,rfl,(bB (by simp only[h19,h30,h36,bS])),trivial⟩ rfl rfl
  ·refine gC 0 (fun h41 p41=>?_) fun h41 p41=>?_
   ·refine go 13 ?_;exact q_v (congrArg Value.bool (by simp only[a2p,a1b hlt (show a4a (l.take i) l[i]=false by simp only[a4a,h41];rfl),bS]))
   ·refine go 5 ?_;refine a4W (Value.string) he rfl fun r42=>?_;refine go 13 ?_
    refine a0x (α:=Nat) 0 (fun j=>I)
     (fun j=>[(1,.pointer (some ⟨g1,0,none⟩)),(3,.map (some r14)),(16,.slice A l.length c0),(17,.int .i64 (l.length:Int)),(18,.int .i64 (i:Int)),(5,.pointer (some ⟨g5,0,none⟩)),(8,.map (some r42)),(44,.slice B20 l[i].slots.length d20),(45,.int .i64 (l[i].slots.length:Int)),(46,.int .i64 (j:Int))])
     (fun j=>[.mp r42 (a1u Value.string (a2x Slot.name (fun _=>Value.bool true) (l[i].slots.take j))),.blk g5 149 (l[i].cells (.slice B20 l[i].slots.length d20)),.mp r14 (a1u Value.string (a2x Kind.name (fun k=>Value.bool (!k.vehicle)) (l.take i))),.blk g1 24 [.slice A l.length c0]])
     (fun j=>j≤l[i].slots.length∧a3A (a5k (l.take i)) l[i].slots j=true)
     (fun j=>l[i].slots.length-j) ⟨Nat.zero_le _,rfl⟩ rfl sb rfl ?_
    intro j ⟨hj,hq⟩;refine gC 6 (fun h47 p47=>?_) fun h47 p47=>?_
    ·have hltj:j<l[i].slots.length:=oM;refine go 6 ?_;obtain⟨b48,o48,w48,e48,c48,r48⟩:=RdA.at_ hB20 (i:=j) hltj;obtain⟨q48,rfl,B48,d48,rfl,hB48,hd48,hm48⟩:=r48;refine o_v rfl (a0m he rfl rfl e48 (j) oM hltj) ?_;refine go 3 fun g10=>?_
     refine go 6 ?_;refine a1N (I':=I) (L':=[(1,.pointer (some ⟨g1,0,none⟩)),(3,.map (some r14)),(16,.slice A l.length c0),(17,.int .i64 (l.length:Int)),(18,.int .i64 (i:Int)),(5,.pointer (some ⟨g5,0,none⟩)),(8,.map (some r42)),(44,.slice B20 l[i].slots.length d20),(45,.int .i64 (l[i].slots.length:Int)),(46,.int .i64 (j:Int)),(10,.pointer (some ⟨g10,0,none⟩)),(72,.bool (((hit Slot.name (l[i].slots.take j) l[i].slots[j].name || !a1j l[i].slots[j].name)||decide (l[i].slots[j].normal<1))||decide ((l[i].slots[j].kinds.length:Int)<l[i].slots[j].normal)))]) (H':=[.blk g10 189 (l[i].slots[j].cells (.slice B48 l[i].slots[j].kinds.length d48)),.mp r42 (a1u Value.string (a2x Slot.name (fun _=>Value.bool true) (l[i].slots.take j))),.blk g5 149 (l[i].cells (.slice B20 l[i].slots.length d20)),.mp r14 (a1u Value.string (a2x Kind.name (fun k=>Value.bool (!k.vehicle)) (l.take i))),.blk g1 24 [.slice A l.length c0]]) ?_ ?_
     ·refine go 4 ?_;refine o_v rfl (b9E m1 (a0y he) he he (l[i].slots[j].name) rfl rfl (a8K _ _ _)) ?_;refine gS 1 54 (fun h54 p54=>?_) fun h54 p54=>?_
      ·refine go 20 ?_;exact a0o ⟨rfl,rfl,rfl,rfl,rfl,rfl,rfl,rfl,rfl,rfl,rfl,(bB (by simp only[h47,h54,bS])),trivial⟩ rfl rfl
      ·refine go 3 ?_;refine a0q rfl rfl h54 (a0v (a3n _ _ ((hs _ (List.getElem_mem hlt)).2 _ (List.getElem_mem hltj)).1) rfl rfl ?_);refine gS 3 60 (fun h60 p60=>?_) fun h60 p60=>?_
       ·refine go 14 ?_;exact a0o ⟨rfl,rfl,rfl,rfl,rfl,rfl,rfl,rfl,rfl,rfl,rfl,(bB (by simp only[h47,h54,h60,bS])),trivial⟩ rfl rfl
       ·refine gS 5 65 (fun h65 p65=>?_) fun h65 p65=>?_
        ·refine go 9 ?_;exact a0o ⟨rfl,rfl,rfl,rfl,rfl,rfl,rfl,rfl,rfl,rfl,rfl,(bB (by simp only[h47,h54,h60,h65,bS])),trivial⟩ rfl rfl
        ·refine go 9 ?_;exact a0o ⟨rfl,rfl,rfl,rfl,rfl,rfl,rfl,rfl,rfl,rfl,rfl,(bB (by simp only[h47,h54,h60,h65,bS])),trivial⟩ rfl rfl
     ·refine gC 0 (fun h72 p72=>?_) fun h72 p72=>?_
      ·refine go 18 ?_;exact q_v (congrArg Value.bool (by simp only[a2p,a1b hlt (show a4a (l.take i) l[i]=false by simp only[a4a,a1b hltj (show a5k (l.take i) (l[i].slots.take j) l[i].slots[j]=false by simp only[a5k,h72];rfl),bS]),bS]))
      ·refine go 8 ?_;have h72n:hit Slot.name (l[i].slots.take j) l[i].slots[j].name=false:=by revert h72;cases hit Slot.name (l[i].slots.take j) l[i].slots[j].name<;>simp
       refine a0b ?_;refine a2i (a2x Slot.name (fun _=>Value.bool true) (l[i].slots.take (j+1))) (a0y he) he (l[i].slots[j].name) rfl rfl rfl ((a9K Slot.name (fun _=>Value.bool true) (l[i].slots.take j) l[i].slots[j] (a6Z h72n)).trans (by rw[a0c hltj])) ?_;refine go 5 ?_;refine a4W (Value.string) he rfl fun r76=>?_;refine go 12 ?_;refine a0d ?_;refine a0a ?_
       refine a0x (α:=Nat) 0 (fun m=>I)
        (fun m=>[(1,.pointer (some ⟨g1,0,none⟩)),(3,.map (some r14)),(16,.slice A l.length c0),(17,.int .i64 (l.length:Int)),(18,.int .i64 (i:Int)),(5,.pointer (some ⟨g5,0,none⟩)),(8,.map (some r42)),(44,.slice B20 l[i].slots.length d20),(45,.int .i64 (l[i].slots.length:Int)),(46,.int .i64 (j:Int)),(10,.pointer (some ⟨g10,0,none⟩)),(11,.map (some r76)),(78,.slice B48 l[i].slots[j].kinds.length d48),(79,.int .i64 (l[i].slots[j].kinds.length:Int)),(80,.int .i64 (m:Int))])
        (fun m=>[.mp r76 (a1u Value.string (a2x _root_.id (fun _=>Value.bool true) (l[i].slots[j].kinds.take m))),.mp r42 (a1u Value.string (a2x Slot.name (fun _=>Value.bool true) (l[i].slots.take (j+1)))),.blk g5 149 (l[i].cells (.slice B20 l[i].slots.length d20)),.mp r14 (a1u Value.string (a2x Kind.name (fun k=>Value.bool (!k.vehicle)) (l.take i))),.blk g1 24 [.slice A l.length c0]])
        (fun m=>m≤l[i].slots[j].kinds.length∧a3A (b3Q (l.take i)) l[i].slots[j].kinds m=true)
        (fun m=>l[i].slots[j].kinds.length-m) ⟨Nat.zero_le _,rfl⟩ rfl sb rfl ?_
       intro m ⟨hmm,hr⟩;refine gC 6 (fun h81 p81=>?_) fun h81 p81=>?_
       ·have hltm:m<l[i].slots[j].kinds.length:=oM;refine go 6 ?_;obtain⟨b82,o82,w82,e82,c82,r82⟩:=RdA.at_ hB48 (i:=m) hltm;obtain rfl:=r82;refine o_v rfl (a0m he rfl rfl e82 (m) oM hltm) ?_;refine go 6 ?_;refine a1N (I':=I) (L':=[(1,.pointer (some ⟨g1,0,none⟩)),(3,.map (some r14)),(16,.slice A l.length c0),(17,.int .i64 (l.length:Int)),(18,.int .i64 (i:Int)),(5,.pointer (some ⟨g5,0,none⟩)),(8,.map (some r42)),(44,.slice B20 l[i].slots.length d20),(45,.int .i64 (l[i].slots.length:Int)),(46,.int .i64 (j:Int)),(10,.pointer (some ⟨g10,0,none⟩)),(11,.map (some r76)),(78,.slice B48 l[i].slots[j].kinds.length d48),(79,.int .i64 (l[i].slots[j].kinds.length:Int)),(80,.int .i64 (m:Int)),(13,.string l[i].slots[j].kinds[m]),(92,.bool (hit _root_.id (l[i].slots[j].kinds.take m) l[i].slots[j].kinds[m] || !d4M Kind.name (fun k=>!k.vehicle) (l.take i) l[i].slots[j].kinds[m]))]) (H':=[.mp r76 (a1u Value.string (a2x _root_.id (fun _=>Value.bool true) (l[i].slots[j].kinds.take m))),.mp r42 (a1u Value.string (a2x Slot.name (fun _=>Value.bool true) (l[i].slots.take (j+1)))),.blk g5 149 (l[i].cells (.slice B20 l[i].slots.length d20)),.mp r14 (a1u Value.string (a2x Kind.name (fun k=>Value.bool (!k.vehicle)) (l.take i))),.blk g1 24 [.slice A l.length c0]]) ?_ ?_
        ·refine go 3 ?_;refine o_v rfl (b9E m0 (a0y he) he he (l[i].slots[j].kinds[m]) rfl rfl (a8K _root_.id _ _)) ?_;refine gS 1 87 (fun h87 p87=>?_) fun h87 p87=>?_
         ·refine go 7 ?_;exact a0o ⟨rfl,rfl,rfl,rfl,rfl,rfl,rfl,rfl,rfl,rfl,rfl,rfl,rfl,rfl,rfl,rfl,(bB (by simp only[h81,h87,bS])),trivial⟩ rfl rfl
         ·refine go 2 ?_;refine a0A (a0q rfl rfl h87 (a0t rfl (b9E m3 (a0y he) he he (l[i].slots[j].kinds[m]) rfl rfl (c9D Kind.name (fun k=>!k.vehicle) _ _)) ?_));refine go 4 ?_;exact a0o ⟨rfl,rfl,rfl,rfl,rfl,rfl,rfl,rfl,rfl,rfl,rfl,rfl,rfl,rfl,rfl,rfl,(bB (by simp only[h81,h87,bS])),trivial⟩ rfl rfl
        ·refine gC 0 (fun h92 p92=>?_) fun h92 p92=>?_
         ·refine go 22 ?_;exact q_v (congrArg Value.bool (by simp only[a2p,a1b hlt (show a4a (l.take i) l[i]=false by simp only[a4a,a1b hltj (show a5k (l.take i) (l[i].slots.take j) l[i].slots[j]=false by simp only[a5k,a1b hltm (show b3Q (l.take i) (l[i].slots[j].kinds.take m) l[i].slots[j].kinds[m]=false by revert h92;simp only[b3Q];cases hit _root_.id (l[i].slots[j].kinds.take m) l[i].slots[j].kinds[m]<;>simp),bS]),bS]),bS]))
         ·refine go 6 ?_;have h92n:hit _root_.id (l[i].slots[j].kinds.take m) l[i].slots[j].kinds[m]=false:=by revert h92;cases hit _root_.id (l[i].slots[j].kinds.take m) l[i].slots[j].kinds[m]<;>simp
          refine a2i (a2x _root_.id (fun _=>Value.bool true) (l[i].slots[j].kinds.take (m+1))) (a0y he) he (l[i].slots[j].kinds[m]) rfl rfl rfl ((a9K _root_.id (fun _=>Value.bool true) (l[i].slots[j].kinds.take m) l[i].slots[j].kinds[m] (a6Z h92n)).trans (by rw[a0c hltm])) ?_;refine go 8 ?_;exact a0w (m+1) ⟨oM,a1l hr hltm (by revert h92;simp only[b3Q];cases hit _root_.id (l[i].slots[j].kinds.take m) l[i].slots[j].kinds[m]<;>simp)⟩ oM rfl sb rfl
       ·refine go 11 ?_;refine a0a ?_;exact a0w (j+1) ⟨oM,a1l hq hltj (by simp only[a5k,h72,(show m=l[i].slots[j].kinds.length from oM)▸hr];rfl)⟩ oM rfl sb rfl
    ·refine go 13 ?_;have h41n:hit Kind.name (l.take i) l[i].name=false:=by revert h41;cases hit Kind.name (l.take i) l[i].name<;>simp
     refine a0d ?_;refine a2i (a2x Kind.name (fun k=>Value.bool (!k.vehicle)) (l.take (i+1))) (a0y he) he (l[i].name) rfl rfl rfl ((a9K Kind.name (fun k=>Value.bool (!k.vehicle)) (l.take i) l[i] (a6Z h41n)).trans (by rw[a0c hlt])) ?_;refine go 8 ?_;refine a0b ?_;refine a0a ?_;refine a0b ?_;refine a0a ?_;exact a0w (i+1) ⟨oM,a1l hn hlt (by simp only[a4a,h41,(show j=l[i].slots.length from oM)▸hq];rfl)⟩ oM rfl sb rfl
 ·refine go 16 ?_;have e:i=l.length:=oM;subst e;exact q_v (congrArg Value.bool (by simp only[a2p,hn,bS]))
theorem d3Q (I:IMap) (v:Value) (l:List Kind) (hv:RdS I v l) :
    FnV prog 94 #[.agg #[v]] I (.bool (c4C l)):=by
 obtain⟨A,c0,rfl,hA,hc,hm⟩:=hv;refine enter func94 call94 rfl ntmps94 rfl fun w0=>?_;refine go 4 fun g1=>?_
 refine gC 12 (fun h10 p10=>?_) fun h10 p10=>?_
 ·refine go 8 ?_;exact q_v (congrArg Value.bool (by simp only[c4C,h10];rfl))
 ·refine go 9 ?_
  refine a0x (α:=Nat) 0 (fun i=>I)
   (fun i=>[(1,.pointer (some ⟨g1,0,none⟩)),(3,.int .i64 (i:Int))])
   (fun i=>[.blk g1 24 [.slice A l.length c0]])
   (fun i=>i≤l.length∧a3A (fun _ k=>a3m k) l i=true)
   (fun i=>l.length-i) ⟨Nat.zero_le _,rfl⟩ rfl sb rfl ?_
  intro i ⟨hi,hn⟩;refine gC 10 (fun h15 p15=>?_) fun h15 p15=>?_
  ·have hlt:i<l.length:=oM;refine go 9 ?_;obtain⟨b21,o21,w21,e21,c21,r21⟩:=RdA.at_ hA (i:=i) hlt;obtain⟨q21,rfl,B21,d21,rfl,hB21,hd21,hm21⟩:=r21;refine go 4 fun g4=>?_
   refine go 6 ?_;refine a1N (I':=I) (L':=[(1,.pointer (some ⟨g1,0,none⟩)),(3,.int .i64 (i:Int)),(4,.pointer (some ⟨g4,0,none⟩)),(32,.bool (decide ((100:Int)<(l[i].name.size:Nat))||decide ((15:Int)<(l[i].slots.length:Nat))))]) (H':=[.blk g4 149 (l[i].cells (.slice B21 l[i].slots.length d21)),.blk g1 24 [.slice A l.length c0]]) ?_ ?_
   ·refine gS 6 27 (fun h27 p27=>?_) fun h27 p27=>?_
    ·refine go 7 ?_;exact a0o ⟨rfl,rfl,rfl,(bB (by simp only[h15,h27,bS])),trivial⟩ rfl rfl
    ·refine go 7 ?_;exact a0o ⟨rfl,rfl,rfl,(bB (by simp only[h15,h27,bS])),trivial⟩ rfl rfl
   ·refine gC 0 (fun h32 p32=>?_) fun h32 p32=>?_
    ·refine go 13 ?_;exact q_v (congrArg Value.bool (by simp only[c4C,a1b (f:=fun _ k=>a3m k) hlt (show a3m l[i]=false by simp only[a3m,h32,bS]),bS]))
    ·refine go 8 ?_
     refine a0x (α:=Nat) 0 (fun j=>I)
      (fun j=>[(1,.pointer (some ⟨g1,0,none⟩)),(3,.int .i64 (i:Int)),(4,.pointer (some ⟨g4,0,none⟩)),(5,.int .i64 (j:Int))])
      (fun j=>[.blk g4 149 (l[i].cells (.slice B21 l[i].slots.length d21)),.blk g1 24 [.slice A l.length c0]])
      (fun j=>j≤l[i].slots.length∧a3A (fun _ s=>a4I s) l[i].slots j=true)
      (fun j=>l[i].slots.length-j) ⟨Nat.zero_le _,rfl⟩ rfl sb rfl ?_
     intro j ⟨hj,hq⟩;refine gC 10 (fun h37 p37=>?_) fun h37 p37=>?_
     ·have hltj:j<l[i].slots.length:=oM;refine go 6 ?_;refine a1N (I':=I) (L':=[(1,.pointer (some ⟨g1,0,none⟩)),(3,.int .i64 (i:Int)),(4,.pointer (some ⟨g4,0,none⟩)),(5,.int .i64 (j:Int)),(57,.bool (decide ((100:Int)<(l[i].slots[j].name.size:Nat))||decide ((15:Int)<(l[i].slots[j].kinds.length:Nat))))]) (H':=[.blk g4 149 (l[i].cells (.slice B21 l[i].slots.length d21)),.blk g1 24 [.slice A l.length c0]]) ?_ ?_
      ·refine go 4 ?_;obtain⟨b43,o43,w43,e43,c43,r43⟩:=RdA.at_ hB21 (i:=j) hltj;obtain⟨q43,rfl,B43,d43,rfl,hB43,hd43,hm43⟩:=r43;refine o_v rfl (a0m he rfl rfl e43 (j) oM hltj) ?_;refine gS 5 48 (fun h48 p48=>?_) fun h48 p48=>?_
       ·refine go 11 ?_;exact a0o ⟨rfl,rfl,rfl,rfl,(bB (by simp only[h37,h48,bS])),trivial⟩ rfl rfl
       ·refine go 3 ?_;obtain⟨b52,o52,w52,e52,c52,r52⟩:=RdA.at_ hB21 (i:=j) hltj;obtain⟨q52,rfl,B52,d52,rfl,hB52,hd52,hm52⟩:=r52;refine a0A (a0q rfl rfl h48 (a0t rfl (a0m he rfl rfl e52 (j) oM hltj) ?_));refine go 7 ?_;exact a0o ⟨rfl,rfl,rfl,rfl,(bB (by simp only[h37,h48,bS])),trivial⟩ rfl rfl
      ·refine gC 0 (fun h57 p57=>?_) fun h57 p57=>?_
       ·refine go 17 ?_;exact q_v (congrArg Value.bool (by simp only[c4C,a1b (f:=fun _ k=>a3m k) hlt (show a3m l[i]=false by simp only[a3m,a1b (f:=fun _ s=>a4I s) hltj (show a4I l[i].slots[j]=false by simp only[a4I,h57];rfl),bS]),bS]))
       ·refine go 8 ?_
        refine a0x (α:=Nat) 0 (fun m=>I)
         (fun m=>[(1,.pointer (some ⟨g1,0,none⟩)),(3,.int .i64 (i:Int)),(4,.pointer (some ⟨g4,0,none⟩)),(5,.int .i64 (j:Int)),(6,.int .i64 (m:Int))])
         (fun m=>[.blk g4 149 (l[i].cells (.slice B21 l[i].slots.length d21)),.blk g1 24 [.slice A l.length c0]])
         (fun m=>m≤l[i].slots[j].kinds.length∧a3A (fun _ k=>!decide ((100:Int)<((k:ByteArray).size:Nat))) l[i].slots[j].kinds m=true)
         (fun m=>l[i].slots[j].kinds.length-m) ⟨Nat.zero_le _,rfl⟩ rfl sb rfl ?_
        intro m ⟨hmm,hr⟩;refine go 7 ?_;obtain⟨b62,o62,w62,e62,c62,r62⟩:=RdA.at_ hB21 (i:=j) hltj;obtain⟨q62,rfl,B62,d62,rfl,hB62,hd62,hm62⟩:=r62;refine o_v rfl (a0m he rfl rfl e62 (j) oM hltj) ?_;refine gC 6 (fun h66 p66=>?_) fun h66 p66=>?_
        ·have hltm:m<l[i].slots[j].kinds.length:=oM;refine go 9 ?_;obtain⟨b72,o72,w72,e72,c72,r72⟩:=RdA.at_ hB21 (i:=j) hltj;obtain⟨q72,rfl,B72,d72,rfl,hB72,hd72,hm72⟩:=r72;refine o_v rfl (a0m he rfl rfl e72 (j) oM hltj) ?_;refine go 3 ?_;obtain⟨b76,o76,w76,e76,c76,r76⟩:=RdA.at_ hB72 (i:=m) hltm;obtain rfl:=r76;refine o_v rfl (a0m he rfl rfl e76 (m) oM hltm) ?_;refine gC 5 (fun h79 p79=>?_) fun h79 p79=>?_
         ·refine go 20 ?_;exact q_v (congrArg Value.bool (by simp only[c4C,a1b (f:=fun _ k=>a3m k) hlt (show a3m l[i]=false by simp only[a3m,a1b (f:=fun _ s=>a4I s) hltj (show a4I l[i].slots[j]=false by simp only[a4I,a1b (f:=fun _ k=>!decide ((100:Int)<((k:ByteArray).size:Nat))) hltm (show (!decide ((100:Int)<((l[i].slots[j].kinds[m]).size:Nat)))=false by simp only[h79];rfl),bS]),bS]),bS]))
         ·refine go 9 ?_;exact a0w (m+1) ⟨oM,a1l hr hltm (by simp only[h79];rfl)⟩ oM rfl sb rfl
        ·refine go 12 ?_;exact a0w (j+1) ⟨oM,a1l hq hltj (by simp only[a4I,h57,(show m=l[i].slots[j].kinds.length from oM)▸hr];rfl)⟩ oM rfl sb rfl
     ·refine go 12 ?_;refine a0a ?_;exact a0w (i+1) ⟨oM,a1l hn hlt (by simp only[a3m,h32,(show j=l[i].slots.length from oM)▸hq];rfl)⟩ oM rfl sb rfl
  ·refine go 12 ?_;have e:i=l.length:=oM;subst e;exact q_v (congrArg Value.bool (by simp only[c4C,hn,h10];rfl))
end Go.Proofs.YtgmkjpafapgccaaGreat
