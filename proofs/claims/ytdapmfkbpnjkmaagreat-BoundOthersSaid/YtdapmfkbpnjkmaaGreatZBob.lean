
import Derived.Test.YtdapmfkbpnjkmaaGreatZBoa
import Derived.SizedLaws
import Derived.Test.YtdapmfkbpnjkmaaGreatChecked
set_option linter.all false
namespace Go.Sx
open Go
theorem b2S:∀l:List UInt8,Op.bytesLess l l=false
 | []=>rfl
 |a::l=>by simp[Op.bytesLess,b2S l]
theorem c2B:∀(a b c:List UInt8),Op.bytesLess a b=true→Op.bytesLess b c=true→Op.bytesLess a c=true:=by
 intro a
 induction a with
 |nil=>
  intro b c h1 h2
  cases c with
  |nil=>cases b<;>simp[Op.bytesLess]at h2
  |cons=>rfl
 |cons x a ih=>
  intro b c h1 h2
  cases b with
  |nil=>simp[Op.bytesLess]at h1
  |cons y b=>
   cases c with
   |nil=>simp[Op.bytesLess]at h2
   |cons z c=>
    simp only[Op.bytesLess,Bool.or_eq_true,decide_eq_true_eq,Bool.and_eq_true,beq_iff_eq]at h1 h2 ⊢
    rcases h1 with h1|⟨rfl,h1⟩
    ·rcases h2 with h2|⟨rfl,h2⟩
     ·exact .inl (UInt8.lt_trans h1 h2)
     ·exact .inl h1
    ·rcases h2 with h2|⟨rfl,h2⟩
     ·exact .inl h2
     ·exact .inr ⟨rfl,ih b c h1 h2⟩
theorem c9a:∀(a b:List UInt8),Op.bytesLess a b=false→Op.bytesLess b a=false→a=b:=by
 intro a
 induction a with
 |nil=>intro b h1 h2;cases b with
  |nil=>rfl
  |cons=>simp[Op.bytesLess]at h1
 |cons x a ih=>
  intro b h1 h2
  cases b with
  |nil=>simp[Op.bytesLess]at h2
  |cons y b=>
   simp only[Op.bytesLess,Bool.or_eq_false_iff,decide_eq_false_iff_not,Bool.and_eq_false_iff,beq_eq_false_iff_ne]at h1 h2
   obtain⟨h1,h3⟩:=h1;obtain⟨h2,h4⟩:=h2
   have e:x=y:=by
    apply UInt8.toNat_inj.1
    have a1:¬x.toNat<y.toNat:=fun h=>h1 (UInt8.lt_iff_toNat_lt.2 h)
    have a2:¬y.toNat<x.toNat:=fun h=>h2 (UInt8.lt_iff_toNat_lt.2 h)
    omega
   subst e
   have h3':Op.bytesLess a b=false:=by rcases h3 with h|h;exact absurd rfl h;simpa using h
   have h4':Op.bytesLess b a=false:=by rcases h4 with h|h;exact absurd rfl h;simpa using h
   rw[ih b h3' h4']
theorem a1U (s:ByteArray):sLt s s=false:=b2S _
theorem a4K {a b c:ByteArray} (h1:sLt a b=true) (h2:sLt b c=true):sLt a c=true:=c2B _ _ _ h1 h2
theorem c8g {a b:ByteArray} (h1:sLt a b=false) (h2:sLt b a=false):a=b:=by
 have h:=c9a _ _ h1 h2
 have:=a7E a b
 rw[h]at this
 simpa using this.symm
theorem b4e {a b:ByteArray} (h:sLt a b=true):sLt b a=false:=by
 cases h2:sLt b a with
 |false=>rfl
 |true=>have:=a4K h h2;rw[a1U]at this;cases this
theorem a8P {a b:ByteArray}:b9a a b<0↔sLt a b=true:=by
 unfold b9a;split
 ·rename_i h;simp[h]
 ·rename_i h;split<;>simp[h]
theorem b2Y {a b:ByteArray}:b9a a b=0↔a=b:=by
 unfold b9a;split
 ·rename_i h
  constructor
  ·intro h2;cases h2
  ·rintro rfl;rw[a1U]at h;cases h
 ·rename_i h
  split
  ·rename_i h2
   constructor
   ·intro h3;cases h3
   ·rintro rfl;simp at h2
  ·rename_i h2;simp[h]at h2;simp[h2]
def Srt {α:Type} (nm:α→ByteArray) (l:List α):Prop:=∀i j (hj:j<l.length) (hi:i<j),sLt (nm (l[i]'(by omega))) (nm l[j])=true
theorem Srt.of_ord {α:Type} {nm:α→ByteArray} {l:List α} (h:b6Y nm l=true):Srt nm l:=by
 have step:∀j (hj:j+1<l.length),sLt (nm (l[j]'(by omega))) (nm l[j+1])=true:=by
  intro j hj;rw[b6Y,a3A,List.all_eq_true]at h
  have h1:=h (j+1) (List.mem_range.2 hj)
  have h2:(l.take (j+1)).getLast? = some (l[j]'(by omega)):=by
   rw[List.getLast?_eq_getElem?,List.length_take,Nat.min_eq_left (by omega),List.getElem?_take,if_pos (by omega),List.getElem?_eq_getElem]
   rfl
  simpa[List.getElem?_eq_getElem hj,a8K,h2]using h1
 intro i j
 induction j with
 |zero=>intro hj hi;omega
 |succ j ih=>
  intro hj hi
  rcases Nat.lt_or_ge i j with hij|hij
  ·exact a4K (ih (by omega) hij) (step j hj)
  ·obtain rfl:i=j:=by omega
   exact step i hj
def a5L {α:Type} (nm:α→ByteArray) (l:List α) (s:ByteArray):Nat:=l.findIdx fun x=>!sLt (nm x) s
def atF {α:Type} (nm:α→ByteArray) (l:List α) (s:ByteArray):Bool:=match l[a5L nm l s]? with|some x=>decide (nm x=s)|none=>false
theorem b7d {α:Type} (nm:α→ByteArray) (l:List α) (s:ByteArray):a5L nm l s≤l.length:=List.findIdx_le_length
theorem b7c {α:Type} {nm:α→ByteArray} {l:List α} {s:ByteArray} {i:Nat} (hi:i≤l.length) (h1:∀q x,q<i→l[q]? = some x→sLt (nm x) s=true) (h2:∀q x,i≤q→l[q]? = some x→sLt (nm x) s=false):a5L nm l s=i:=by
 rcases Nat.lt_or_ge i l.length with h|h
 ·refine (List.findIdx_eq h).2 ⟨by simp[h2 i _ (Nat.le_refl _) (List.getElem?_eq_getElem h)],fun j hj=>?_⟩
  simp[h1 j _ hj (List.getElem?_eq_getElem (by omega))]
 ·obtain rfl:i=l.length:=by omega
  refine List.findIdx_eq_length.2 fun x hx=>?_
  obtain⟨j,hj,rfl⟩:=List.getElem_of_mem hx
  simp[h1 j _ hj (List.getElem?_eq_getElem hj)]
theorem c9d {α:Type} {nm:α→ByteArray} {l:List α} {s:ByteArray} {h:Nat} (hs:Srt nm l) (hh:h<l.length) (hl:sLt (nm l[h]) s=true) (q:Nat) (x:α) (hq:q<h+1) (hx:l[q]? = some x):sLt (nm x) s=true:=by
 obtain⟨hql,rfl⟩:=List.getElem?_eq_some_iff.1 hx
 rcases Nat.lt_or_ge q h with hqh|hqh
 ·exact a4K (hs q h hh hqh) hl
 ·obtain rfl:q=h:=by omega
  exact hl
theorem c9c {α:Type} {nm:α→ByteArray} {l:List α} {s:ByteArray} {h:Nat} (hs:Srt nm l) (hh:h<l.length) (hl:sLt (nm l[h]) s=false) (q:Nat) (x:α) (hq:h≤q) (hx:l[q]? = some x):sLt (nm x) s=false:=by
 obtain⟨hql,rfl⟩:=List.getElem?_eq_some_iff.1 hx
 rcases Nat.lt_or_ge h q with hqh|hqh
 ·cases hc:sLt (nm l[q]) s with
  |false=>rfl
  |true=>have:=a4K (hs h q hql hqh) hc;rw[this]at hl;cases hl
 ·obtain rfl:q=h:=by omega
  exact hl
theorem c8Y {α:Type} {nm:α→ByteArray} {l:List α} {s:ByteArray} {i:Nat} (hp:a5L nm l s=i) (hi:i<l.length):atF nm l s=decide (nm l[i]=s):=by
 simp[atF,hp,hi]
theorem c5X {α:Type} {nm:α→ByteArray} {l:List α} {s:ByteArray} {i:Nat} (hp:a5L nm l s=i) (hi:¬i<l.length):atF nm l s=false:=by
 simp[atF,hp,List.getElem?_eq_none (by omega:l.length≤i)]
theorem c5j {α:Type} {nm:α→ByteArray} {l:List α} {s:ByteArray} (h:atF nm l s=true):a5L nm l s<l.length:=by
 rcases Nat.lt_or_ge (a5L nm l s) l.length with h1|h1
 ·exact h1
 ·rw[c5X rfl (by omega)]at h;cases h
theorem wrap_u64 (x:Int) (h0:0≤x) (h:x<18446744073709551616):IntKind.u64.wrap x=x:=by
 simp[IntKind.wrap,IntKind.signed,IntKind.bits]
 omega
def a4i {α:Type} (nm:α→ByteArray) (l:List α) (x:α):List α:=if atF nm l (nm x)=true then l.set (a5L nm l (nm x)) x else l.take (a5L nm l (nm x))++x::l.drop (a5L nm l (nm x))
end Go.Sx
set_option linter.all false
namespace Go.Sx
open Go
section
variable {α:Type}
theorem b6w {xs:List α} {c z:α} {i n q r:Nat} (hn:xs.length=n) (hi:i≤n) (hq:i+q=n+1) :
  (((xs.take i++List.replicate (q+r) z).take i++([c]++(xs.take i++List.replicate (q+r) z).drop (i+[c].length))).take (i+1) ++
   (xs.drop i++((xs.take i++List.replicate (q+r) z).take i++([c]++(xs.take i++List.replicate (q+r) z).drop (i+[c].length))).drop (i+1+(xs.drop i).length)))=(xs.take i++c::xs.drop i)++List.replicate r z:=by
 have h1:(xs.take i).length=i:=by rw[List.length_take];omega
 have h2:(xs.take i++List.replicate (q+r) z).take i=xs.take i:=by rw[List.take_append_of_le_length (by omega),List.take_of_length_le (by omega)]
 have h3:(xs.take i++List.replicate (q+r) z).drop (i+[c].length)=List.replicate (q+r-1) z:=by
  rw[List.drop_append,List.drop_eq_nil_of_le (by simp;omega),List.nil_append,h1,List.drop_replicate]
  congr 1
  simp
 rw[h2,h3]
 have h4:(xs.take i++([c]++List.replicate (q+r-1) z)).take (i+1)=xs.take i++[c]:=by
  rw[List.take_append,List.take_of_length_le (by omega),h1]
  congr 1
  rw[show i+1-i=1 from by omega]
  rfl
 have h5:(xs.take i++([c]++List.replicate (q+r-1) z)).drop (i+1+(xs.drop i).length)=List.replicate r z:=by
  rw[List.drop_append,List.drop_eq_nil_of_le (by omega),List.nil_append,h1,List.length_drop,List.drop_append,List.drop_eq_nil_of_le (by simp;omega),List.nil_append,List.drop_replicate]
  congr 1
  simp
  omega
 rw[h4,h5]
 simp
theorem b3m {xs rest:List α} {c:α} {i n:Nat} (hn:xs.length=n) (hi:i≤n) (hr:0<rest.length) :
  ((((xs++rest).take (i+1)++((((xs++rest).drop i).take (n-i))++(xs++rest).drop (i+1+(((xs++rest).drop i).take (n-i)).length))).take i) ++
   ([c]++((xs++rest).take (i+1)++((((xs++rest).drop i).take (n-i))++(xs++rest).drop (i+1+(((xs++rest).drop i).take (n-i)).length))).drop (i+[c].length)))=(xs.take i++c::xs.drop i)++rest.drop 1:=by
 have h1:((xs++rest).drop i).take (n-i)=xs.drop i:=by
  rw[List.drop_append_of_le_length (by omega),List.take_append_of_le_length (by rw[List.length_drop];omega),List.take_of_length_le (by rw[List.length_drop];omega)]
 rw[h1]
 have h2:((xs++rest).take (i+1)).length=i+1:=by rw[List.length_take,List.length_append];omega
 have h3:(xs++rest).drop (i+1+(xs.drop i).length)=rest.drop 1:=by
  rw[List.length_drop,List.drop_append,List.drop_eq_nil_of_le (by omega),List.nil_append]
  congr 1
  omega
 rw[h3];rw[List.take_append_of_le_length (by omega),List.take_take,Nat.min_eq_left (by omega),List.take_append_of_le_length (by omega)];rw[List.drop_append,List.drop_eq_nil_of_le (by simp;omega),List.nil_append,h2];rw[show i+[c].length-(i+1)=0 from by simp]
 simp
end
section
variable {P:Program} {ρ:Option Nat} {n:Sz} {E:Ent} {I:IMap} {L:LL} {H:List Res} {Q:Exit→Act→World→Prop} {ops:Array Oper} {K:Act→World→Prop}
variable {d ty:Nat} {pos:String} {af:Array Edge}
theorem a4N {g t:Nat} {xss yss:List (List Value)} (h:xss=yss) (k:SX n E I L (.blk g t yss.flatten::H) K):SX n E I L (.blk g t xss.flatten::H) K:=h▸k
theorem OV.cast {op:Op} {dst:Option Nat} {v u:Value} (h:OV P n E I L H ⟨dst,op,ty,pos,af,none⟩ v) (e:v=u):OV P n E I L H ⟨dst,op,ty,pos,af,none⟩ u:=e▸h
theorem a1V {g c o k:Nat} (h:o<c):c2Q (some ⟨g,0,none⟩) c o k=some ⟨g,o * k,none⟩:=by
 unfold c2Q;rw[if_neg (by omega)]
 simp[add_lit]
theorem b2A {g t k o m:Nat} {xss:List (List Value)} (hm:Res.blk g t xss.flatten∈H) (hU:Uk k xss) (w:World) (mm:Mem E I H w) (j:Nat) (u:Value) (hu:((xss.drop o).take m).flatten[j]? = some u):w.cell? ⟨g,o * k+j,none⟩=some u:=by
 have hg:w.heap[g]? = some (.cells xss.flatten.toArray t (0,0)):=mm.holds _ hm
 rw[cell_of_row w g _ _ t _ hg];rw[←a7j (hU.drop o),←a7i hU,List.getElem?_take]at hu
 split at hu
 ·simpa[List.getElem?_drop]using hu
 ·cases hu
end
end Go.Sx
set_option linter.all false
namespace Go.Sx
open Go
section
variable {P:Program} {ρ:Option Nat} {n:Sz} {E:Ent} {I:IMap} {L:LL} {H:List Res} {Q:Exit→Act→World→Prop} {ops:Array Oper} {K:Act→World→Prop}
variable {d ty:Nat} {pos:String} {af:Array Edge}
theorem c7D {v:Value} {g t:Nat} {cs:List Value} {fo:Operand} {as_:List Operand} {ats:Array TypeId} {f:FuncId} {args:List Value}
  (hm:Res.blk g t cs∈H) (hc:∀I2,ILe I I2→ICells I2 g 0 cs→FnV P f args.toArray I2 v) (h:a1P L fo as_=some (f,args)) (hd:Nat.blt d n.sz=true)
  (kk:SX n E I ((d,v)::L) H K) :
  SX n E I L H (one P ops Q ⟨some d,.call { callee:=.value fo,args:=as_.toArray,argTypes:=ats },ty,pos,af,none⟩ K):=by
 intro a w s mm
 have hg:w.heap[g]? = some (.cells cs.toArray t (0,0)):=mm.holds _ hm
 have hpriv:=(mm.priv _ hm g rfl).1
 have hle:ILe I (I.pub g (.cells cs.toArray t (0,0))):=IMap.pub_le _ hpriv
 have hR:ICells (I.pub g (.cells cs.toArray t (0,0))) g 0 cs:=fun j u hu=>⟨_,t,(0,0),IMap.pub_same _ _ _,by rw[Nat.zero_add];simpa using hu⟩
 have m2:Mem ⟨[],I.pub g (.cells cs.toArray t (0,0)),w⟩ (I.pub g (.cells cs.toArray t (0,0))) [] w:=⟨Upd.refl _ _,fun b o hb=>by
  unfold IMap.pub at hb
  split at hb
  ·rename_i e;subst e;cases hb;exact hg
  ·exact mm.con b o hb,ILe.refl _,fun b hb=>.inl hb,fun _ h=>(by cases h),fun _ h=>(by cases h),List.nodup_nil⟩
 have back:∀w',Mem ⟨[],I.pub g (.cells cs.toArray t (0,0)),w⟩ (I.pub g (.cells cs.toArray t (0,0))) [] w'→Mem E I H w':=fun w' m'=>
  mm.other m'.upd.os m'.upd.tape m'.upd.output m'.upd.size (fun k hk=>m'.upd.block k hk (by simp))
 unfold one;rw[if_pos (by rfl)];refine a7L ?_
 have h1:=(hc _ hle hR).go w m2
 unfold After at h1 ⊢
 rw[a7D s h ⟨some d,.call { callee:=.value fo,args:=as_.toArray,argTypes:=ats },ty,pos,af,none⟩ rfl (ats:=ats)]
 have key:∀e w'',a8L ⟨[],(I.pub g (.cells cs.toArray t (0,0))),w⟩ (fun u I' H'=>u=v∧I'=(I.pub g (.cells cs.toArray t (0,0)))∧H'=[]) e w''→(match e with | .returned v=>K (a.put (some d) v) w''|_=>False):=by
  rintro e w'' ⟨u,I',H',rfl,hm',rfl,rfl,rfl⟩;exact kk _ _ (s.put hd) (back _ hm')
 split at h1
 ·rename_i v w' hr;exact key _ _ h1
 ·rename_i f' args' w' hr;exact Calls.mono h1 key
 ·rename_i l f' tmps assign body w' hr;exact RoundIn.mono h1 key
 ·exact h1.elim
end
abbrev b2L:=List Part×Int
def a5C (n:Int):b2L:=([],n)
def b2r (st:List Part) (p:Part):b2L:=(a4i Part.name st p,0)
def c3M (e:Evt):Part:=⟨e.part,e.kind,a1g,a1g,e.day,e.day,false,[],zLife⟩
def a2P (c:List Kind) (st:List Part) (e:Evt):b2L:=
 if (a0O st e.part).isSome=true then a5C 3 else if (a7h c e.kind).isSome=false then a5C 4 else if ((st.length:Nat):Int)=20000 then a5C 7 else b2r st (c3M e)
def a0X (st:List Part) (e:Evt):Bool:=st.any fun x=>decide (x.into=e.into)&&decide (x.slot=e.slot)
def a1p (st:List Part) (s:ByteArray):Bool:=st.any fun x=>decide (x.into=s)
def a1B (c:List Kind) (st:List Part) (e:Evt) (p q:Part) (kd:Kind):b2L:=
 if (kd.vehicle || !a6z c q.kind e.slot p.kind)=true then a5C 4 else if ¬p.into=a1g then a5C 5 else if a0X st e=true then a5C 6 else b2r st { p with into:=e.into,slot:=e.slot }
def a0K (st:List Part) (p:Part):b2L:=if p.into=a1g then a5C 5 else b2r st { p with into:=a1g,slot:=a1g }
def a1y (st:List Part) (p:Part) (kd:Kind):b2L:=if kd.vehicle=false then a5C 4 else b2r st p
def a2q (e:Evt) (p:Part):Part:={ p with since:=if e.day>p.since then e.day else p.since,life:=zLife }
def a4g (e:Evt) (p:Part):Part:={ p with props:=a4i Prp.key p.props ⟨e.key,e.value⟩ }
def a1f (st:List Part) (e:Evt) (p:Part):b2L:=if (60:Int)<((a4g e p).props.length:Nat) then a5C 7 else b2r st (a4g e p)
def a0T (st:List Part) (p:Part):b2L:=if (!decide (p.into=a1g)||a1p st p.name)=true then a5C 5 else b2r st { p with scrapped:=true }
def a1C (c:List Kind) (st:List Part) (e:Evt) (p q:Part) (kd:Kind):b2L:=
 if e.op=2 then a1B c st e p q kd else if e.op=3 then a0K st p else if e.op=4 then a1y st p kd else if e.op=5 then b2r st (a2q e p) else if e.op=6 then a1f st e p else if e.op=7 then a0T st p else b2r st p
def a1I (st:List Part) (e:Evt):Part:=(a0O st e.part).getD zPart
def a2p (st:List Part) (e:Evt):Option Part:=if e.op=2 then a0O st e.into else a0O st e.part
def a2I (st:List Part) (e:Evt):Part:=(a2p st e).getD zPart
def a3D (c:List Kind) (st:List Part) (e:Evt):Kind:=(a7h c (a1I st e).kind).getD b0G
def a0G (c:List Kind) (st:List Part) (e:Evt):b2L:=
 if (!(a0O st e.part).isSome || !(a2p st e).isSome)=true then a5C 2 else if ((a1I st e).scrapped||(a2I st e).scrapped)=true then a5C 5 else a1C c st e (a1I st e) (a2I st e) (a3D c st e)
def a0p (c:List Kind) (st:List Part) (e:Evt):b2L:=
 if (!a3x c st || !a1H e)=true then a5C 1 else if e.op=1 then a2P c st e else a0G c st e
def StIs (J:IMap) (r:b2L) (u:Value):Prop:=∃w,u = .tuple #[.agg #[w],.int .i64 r.2]∧RdS J w r.1
theorem StIs.fail {J:IMap} {r:b2L} {n:Int} (h:r=a5C n):StIs J r (.tuple #[.agg #[.slice none 0 0],.int .i64 n]):=by subst h;exact⟨_,rfl,RdS.nil'⟩
theorem StIs.put {J:IMap} {r:b2L} {st:List Part} {p:Part} {w:Value} (h:r=b2r st p) (hw:RdS J w (a4i Part.name st p)):StIs J r (.tuple #[.agg #[w],.int .i64 0]):=by subst h;exact⟨w,rfl,hw⟩
theorem b1A {c:List Kind} {st:List Part} (h:a3x c st=true):Srt Part.name st∧st.length≤20000:=by
 simp only[a3x,b2P,Bool.and_eq_true,Bool.not_eq_true',Bool.or_eq_false_iff,Bool.not_eq_false',decide_eq_false_iff_not]at h
 exact⟨Srt.of_ord h.1.2,by omega⟩
theorem a4S {α:Type} {f:List α→α→Bool} {l:List α} (h:a3A f l l.length=true) {x:α} (hx:x∈l):∃pre,f pre x=true:=by
 obtain⟨i,hi,rfl⟩:=List.getElem_of_mem hx;rw[a3A,List.all_eq_true]at h
 have h1:=h i (List.mem_range.2 hi)
 simp only[List.getElem?_eq_getElem hi]at h1
 exact⟨_,h1⟩
theorem b0l {c:List Kind} {st:List Part} (h:a3x c st=true) {p:Part} (hp:p∈st):Srt Prp.key p.props∧p.props.length≤60:=by
 simp only[a3x,Bool.and_eq_true]at h
 obtain⟨pre,h1⟩:=a4S h.2 hp
 simp only[a2J,b2R,Bool.and_eq_true,Bool.not_eq_true',Bool.or_eq_false_iff,Bool.not_eq_false']at h1
 have h2:=h1.1.1
 simp only[a4n,a5h,Bool.and_eq_true,Bool.not_eq_true',Bool.or_eq_false_iff,decide_eq_false_iff_not]at h2
 exact⟨Srt.of_ord h2.2.1.1.1,by omega⟩
theorem b1X {st:List Part} {s:ByteArray} {p:Part} (h:a0O st s=some p):p∈st:=List.mem_of_find?_eq_some h
theorem a9V {st:List Part} {e:Evt} (h:(a0O st e.part).isSome=true):a1I st e∈st:=by
 obtain⟨p,hp⟩:=Option.isSome_iff_exists.1 h
 have:a1I st e=p:=by rw[a1I,hp];rfl
 rw[this];exact b1X hp
end Go.Sx
set_option linter.all false
namespace Go.Sx
open Go
class Day (α:Type) where
 day:α→Int
 ch:α→List Value
 k:Nat
 len:∀x,(ch x).length=k
instance:Day Evt:=⟨Evt.day,Evt.cells,14,fun _=>rfl⟩
variable {α:Type} [Day α]
def a1O (l:List α):List (List Value):=l.map Day.ch
theorem b9U (l:List α):Uk (Day.k α) (a1O l):=fun c hc=>by obtain⟨e,_,rfl⟩:=List.mem_map.1 hc;exact Day.len e
theorem a0D (l:List α):(a1O l).length=l.length:=by simp[a1O]
theorem a1N {l:List α} {i:Nat} (h:i<l.length):(a1O l)[i]? = some (Day.ch l[i]):=by simp[a1O,h]
theorem a6i (l:List α) (i:Nat) (e:α):(a1O l).set i (Day.ch e)=a1O (l.set i e):=by simp[a1O,List.map_set]
theorem a0s (l:List Evt):Uk 14 (a1O l):=b9U l
theorem a7e {I:IMap} (l:List Evt):FlatC I (a1O l) l:=by
 induction l with
 |nil=>exact .nil
 |cons e l ih=>exact .cons rfl ih
theorem b9S {l:List Evt} {rest:List (List Value)} {i:Nat} (h:i<l.length):(a1O l++rest)[i]? = some (Day.ch l[i]):=by
 rw[List.getElem?_append_left (by rw[a0D];exact h)];exact a1N h
theorem b9T (l:List Evt) (rest:List (List Value)) (i:Nat) (h:i<l.length) (e:Evt):(a1O l++rest).set i (Day.ch e)=a1O (l.set i e)++rest:=by
 rw[List.set_append_left _ _ (by rw[a0D];exact h),a6i]
theorem b9R {I:IMap} {xss:List (List Value)} {l:List Evt} (h:FlatC I xss l):xss=a1O l:=by
 induction h with
 |nil=>rfl
 |cons h1 _ ih=>rw[ih];simp only[a1O,List.map_cons];rw[show _=_ from h1];rfl
def swp (l:List α) (i j:Nat):List α:=match l[i]?,l[j]? with
 |some x,some y=>(l.set i y).set j x
 |_,_=>l
theorem b1u {l:List α} {i j:Nat} (hi:i<l.length) (hj:j<l.length):swp l i j=(l.set i l[j]).set j l[i]:=by simp[swp,hi,hj]
theorem b5J (l:List α) (i j:Nat):(swp l i j).length=l.length:=by unfold swp;split<;>simp
def a0C (l:List α) (k:Nat):Int:=(l[k]?.map Day.day).getD 0
theorem a1z {l:List α} {k:Nat} (h:k<l.length):a0C l k=Day.day l[k]:=by simp[a0C,h]
theorem b0h {l:List α} {i j:Nat} (hi:i<l.length) (hj:j<l.length) (k:Nat):(swp l i j)[k]? = if k=j then l[i]? else if k=i then l[j]? else l[k]?:=by
 rw[b1u hi hj,List.getElem?_set,List.getElem?_set]
 by_cases h1:j=k
 ·subst h1;simp[hj,hi]
 ·have:¬k=j:=fun e=>h1 e.symm
  by_cases h2:i=k
  ·subst h2;simp[h1,this,hi,hj]
  ·have h3:¬k=i:=fun e=>h2 e.symm
   simp[h1,h2,this,h3]
theorem c1G {l:List α} {i j:Nat} (hi:i<l.length) (hj:j<l.length) (k:Nat):a0C (swp l i j) k=if k=j then a0C l i else if k=i then a0C l j else a0C l k:=by
 unfold a0C;rw[b0h hi hj]
 split
 ·rfl
 ·split<;>rfl
def Stb (l m:List α):Prop:=l.length=m.length∧∀d:Int,m.filter (fun e=>decide (Day.day e=d))=l.filter (fun e=>decide (Day.day e=d))
theorem Stb.refl (l:List α):Stb l l:=⟨rfl,fun _=>rfl⟩
theorem Stb.trans {l m k:List α} (h:Stb l m) (h':Stb m k):Stb l k:=⟨h.1.trans h'.1,fun d=>(h'.2 d).trans (h.2 d)⟩
theorem b4W (a b:List α) (d:Int) (h:∀x∈a,∀y∈b,Day.day x≠Day.day y):(b++a).filter (fun e=>decide (Day.day e=d))=(a++b).filter (fun e=>decide (Day.day e=d)):=by
 rw[List.filter_append,List.filter_append]
 by_cases ha:a.filter (fun e=>decide (Day.day e=d))=[]
 ·rw[ha];simp
 ·have hb:b.filter (fun e=>decide (Day.day e=d))=[]:=by
   rw[List.filter_eq_nil_iff];intro y hy;obtain⟨x,hx⟩:=List.exists_mem_of_ne_nil _ ha;rw[List.mem_filter]at hx
   have:=h x hx.1 y hy
   simp at hx ⊢
   omega
  rw[hb];simp
theorem Stb.block {p a b s:List α} (h:∀x∈a,∀y∈b,Day.day x≠Day.day y):Stb (p++(a++(b++s))) (p++(b++(a++s))):=by
 refine⟨by simp;omega,fun d=>?_⟩
 have:=b4W a b d h
 rw[List.filter_append,List.filter_append]at this
 simp only[List.filter_append]
 congr 1
 rw[←List.append_assoc,this,List.append_assoc]
def a9i (l:List α) (a b:Nat):Nat→List α
 |0=>l
 |k+1=>swp (a9i l a b k) (a+k) (b+k)
theorem a3T (l:List α) (a b:Nat):∀k,(a9i l a b k).length=l.length
 |0=>rfl
 |k+1=>by rw[a9i,b5J,a3T l a b k]
theorem a4U {l:List α} {i j:Nat} (hi:i<l.length) (hj:j<l.length):((a1O l).set i (Day.ch l[j])).set j (Day.ch l[i])=a1O (swp l i j):=by
 rw[a6i,a6i,b1u hi hj]
theorem a3W {l:List α} {i j:Nat} (hi:i<l.length) (hj:j<l.length) (hij:i≠j):((a1O l).set j (Day.ch l[i])).set i (Day.ch l[j])=a1O (swp l i j):=by
 rw[a6i,a6i,b1u hi hj,List.set_comm _ _ hij.symm]
theorem d0F (m:List α) {j:Nat} (hj:j+1<m.length):m=m.take j++([m[j]]++([m[j+1]]++m.drop (j+2))):=by
 conv=>lhs;rw[←List.take_append_drop j m,List.drop_eq_getElem_cons (by omega),List.drop_eq_getElem_cons hj]
 rfl
theorem c8r (m:List α) {j:Nat} (hj:j+1<m.length):swp m (j+1) j=m.take j++([m[j+1]]++([m[j]]++m.drop (j+2))):=by
 rw[b1u hj (by omega)]
 apply List.ext_getElem?
 intro k;rw[List.getElem?_set,List.getElem?_set,List.getElem?_append]
 simp only[List.length_take,List.length_set]
 have hmin:min j m.length=j:=by omega
 rw[hmin]
 by_cases h1:k<j
 ·simp[h1,show ¬j=k by omega,show ¬j+1=k by omega,List.getElem?_take]
 ·rw[if_neg h1];obtain⟨q,rfl⟩:∃q,k=j+q:=⟨k-j,by omega⟩;rw[Nat.add_sub_cancel_left]
  match q with
  |0=>simp;omega
  |1=>simp[hj]
  |q+2=>
   simp only[show ¬j=j+(q+2) by omega,show ¬j+1=j+(q+2) by omega,if_false]
   simp[List.getElem?_drop]
   congr 1
   omega
theorem c8s {l m:List α} {j:Nat} (h:Stb l m) (hj:j+1<m.length) (hd:a0C m (j+1)<a0C m j):Stb l (swp m (j+1) j):=by
 refine h.trans ?_
 have e:=d0F m hj
 rw[c8r m hj]
 conv=>arg 1;rw[e]
 refine Stb.block fun x hx y hy=>?_
 rw[List.mem_singleton]at hx hy
 subst hx hy;rw[a1z hj,a1z (by omega)]at hd
 omega
theorem c4M {l m:List α} {j:Nat} (h:Stb l m) (h0:0<j) (hj:j<m.length) (hd:a0C m j<a0C m (j-1)):Stb l (swp m j (j-1)):=by
 obtain⟨q,rfl⟩:∃q,j=q+1:=⟨j-1,by omega⟩;exact c8s h hj hd
theorem a7c {a b:Int}:b4H a b<0↔a<b:=by
 unfold b4H
 split
 ·rename_i h;simp[h]
 ·rename_i h;split<;>simp[h]
structure Seg (l m:List α) (a b:Nat):Prop where
 stb:Stb l m
 out:∀k,k<a∨b≤k→m[k]? = l[k]?
 srt:∀p q,a≤p→p<q→q<b→a0C m p≤a0C m q
theorem Seg.one (l:List α) (a:Nat):Seg l l a (a+1):=⟨Stb.refl l,fun _ _=>rfl,fun p q h1 h2 h3=>by omega⟩
theorem Seg.none {l:List α} {a b:Nat} (h:b≤a+1):Seg l l a b:=⟨Stb.refl l,fun _ _=>rfl,fun p q h1 h2 h3=>by omega⟩
structure Ins (l m:List α) (a i j:Nat):Prop where
 stb:Stb l m
 out:∀k,k<a∨i+1≤k→m[k]? = l[k]?
 srt:∀p q,a≤p→p<q→q≤i→q≠j→a0C m p≤a0C m q
theorem Ins.start {l m:List α} {a i:Nat} (h:Seg l m a i):Ins l m a i i:=⟨h.stb,fun k hk=>h.out k (by omega),fun p q h1 h2 h3 h4=>h.srt p q h1 h2 (by omega)⟩
theorem Ins.step {l m:List α} {a i j:Nat} (h:Ins l m a i j) (h1:a<j) (h2:j≤i) (h3:i<m.length) (hd:a0C m j<a0C m (j-1)):Ins l (swp m j (j-1)) a i (j-1):=by
 refine⟨c4M h.stb (by omega) (by omega) hd,fun k hk=>?_,fun p q p1 p2 p3 p4=>?_⟩
 ·rw[b0h (by omega) (by omega),if_neg (by omega),if_neg (by omega)];exact h.out k hk
 ·rw[c1G (by omega) (by omega),c1G (by omega) (by omega)];rw[if_neg p4]
  by_cases hq:q=j
  ·subst hq;rw[if_pos rfl]
   by_cases hp:p=q-1
   ·rw[if_pos hp];omega
   ·rw[if_neg hp,if_neg (by omega)];exact h.srt p (q-1) p1 (by omega) (by omega) (by omega)
  ·rw[if_neg hq]
   by_cases hp:p=j-1
   ·rw[if_pos hp];exact h.srt j q (by omega) (by omega) p3 hq
   ·rw[if_neg hp]
    by_cases hp2:p=j
    ·rw[if_pos hp2];exact h.srt (j-1) q (by omega) (by omega) p3 hq
    ·rw[if_neg hp2];exact h.srt p q p1 p2 p3 hq
theorem Ins.done {l m:List α} {a i j:Nat} (h:Ins l m a i j) (h1:a≤j) (h2:j≤i) (hd:j=a∨a0C m (j-1)≤a0C m j):Seg l m a (i+1):=by
 refine⟨h.stb,fun k hk=>h.out k hk,fun p q p1 p2 p3=>?_⟩
 by_cases hq:q=j
 ·subst hq
  rcases hd with hd|hd
  ·omega
  ·rcases Nat.lt_or_ge p (q-1) with hp|hp
   ·exact Int.le_trans (h.srt p (q-1) p1 hp (by omega) (by omega)) hd
   ·obtain rfl:p=q-1:=by omega
    exact hd
 ·exact h.srt p q p1 p2 (by omega) hq
theorem Seg.len {l m:List α} {a b:Nat} (h:Seg l m a b):m.length=l.length:=h.stb.1.symm
theorem Ins.len {l m:List α} {a i j:Nat} (h:Ins l m a i j):m.length=l.length:=h.stb.1.symm
def c4L (f:Nat→Option α) (a b n k:Nat):Option α:=if a≤k∧k<a+n then f (k-a+b) else if b≤k∧k<b+n then f (k-b+a) else f k
def a8f (f:Nat→Option α) (m i j k:Nat):Option α:=if m-i≤k∧k<m-i+j then f (k+i) else if m-i+j≤k∧k<m+j then f (k-j) else f k
theorem a5K {l:List α} {a b:Nat}:∀(n:Nat),a+n≤b→b+n≤l.length→∀k,(a9i l a b n)[k]? = c4L (l[·]?) a b n k
 |0,_,_,k=>by
  simp only[a9i,c4L]
  rw[if_neg (by omega),if_neg (by omega)]
 |n+1,h1,h2,k=>by
  have hl:=a3T l a b n
  rw[a9i,b0h (by omega) (by omega)]
  have ih:=a5K n (l:=l) (a:=a) (b:=b) (by omega) (by omega)
  rw[ih,ih,ih]
  simp only[c4L]
  repeat' split
  all_goals first
   |(exfalso;omega)
   |rfl
   |(congr 1;omega)
theorem c5C {f g:Nat→Option α} {m i j:Nat} (hm:i≤m) (h:j<i) (hg:∀k,g k=c4L f (m-i) m j k) (k:Nat):a8f g m (i-j) j k=a8f f m i j k:=by
 simp only[a8f,hg,c4L]
 repeat' split
 all_goals first
  |(exfalso;omega)
  |rfl
  |(congr 1;omega)
theorem c5D {f g:Nat→Option α} {m i j:Nat} (hm:i≤m) (h:i<j) (hg:∀k,g k=c4L f (m-i) (m+j-i) i k) (k:Nat):a8f g m i (j-i) k=a8f f m i j k:=by
 simp only[a8f,hg,c4L]
 repeat' split
 all_goals first
  |(exfalso;omega)
  |rfl
  |(congr 1;omega)
theorem c5B {f g:Nat→Option α} {m i:Nat} (hm:i≤m) (hg:∀k,g k=c4L f (m-i) m i k) (k:Nat):g k=a8f f m i i k:=by
 simp only[a8f,hg,c4L]
 repeat' split
 all_goals first
  |(exfalso;omega)
  |rfl
  |(congr 1;omega)
end Go.Sx
set_option linter.all false
namespace Go.Sx
open Go
variable {α:Type} [Day α]
def pc (l:List α) (a b:Nat):List α:=(l.drop a).take (b-a)
theorem b7a {l:List α} {a b:Nat} (k:Nat):(pc l a b)[k]? = if k<b-a then l[a+k]? else none:=by
 rw[pc,List.getElem?_take,List.getElem?_drop]
theorem c5A {l:List α} {a b:Nat} (h:b≤l.length):(pc l a b).length=b-a:=by rw[pc,List.length_take,List.length_drop];omega
theorem c1i {l:List α} {a b:Nat} {x:α} (hx:x∈pc l a b):∃p,a≤p∧p<b∧l[p]? = some x:=by
 obtain⟨k,hk⟩:=List.getElem?_of_mem hx;rw[b7a]at hk
 split at hk
 ·exact⟨a+k,by omega,by omega,hk⟩
 ·cases hk
theorem c9U {l:List α} {a b p:Nat} {x:α} (h1:a≤p) (h2:p<b) (hx:l[p]? = some x):x∈pc l a b:=by
 refine List.mem_of_getElem? (i:=p-a) ?_;rw[b7a,if_pos (by omega),show a+(p-a)=p from by omega];exact hx
theorem d1a {l:List α} {a b:Nat} (h1:a≤b) (h2:b≤l.length):l=l.take a++(pc l a b++l.drop b):=by
 have e:pc l a b++l.drop b=l.drop a:=by
  have:=List.take_append_drop (b-a) (l.drop a)
  rw[List.drop_drop,show a+(b-a)=b from by omega]at this
  exact this
 rw[e,List.take_append_drop]
theorem b6f {l:List α} {p:Nat} {x:α} (h:l[p]? = some x):a0C l p=Day.day x:=by simp[a0C,h]
theorem c1y {l m:List α} {a b:Nat} (hs:Stb l m) (ho:∀k,k<a∨b≤k→m[k]? = l[k]?) (h1:a≤b) (h2:b≤l.length) {p:Nat} (hp1:a≤p) (hp2:p<b):∃q,a≤q∧q<b∧a0C m p=a0C l q:=by
 have hml:m.length=l.length:=hs.1.symm
 have et:m.take a=l.take a:=by
  apply List.ext_getElem?
  intro k;rw[List.getElem?_take,List.getElem?_take]
  split
  ·exact ho k (.inl (by omega))
  ·rfl
 have ed:m.drop b=l.drop b:=by
  apply List.ext_getElem?
  intro k;rw[List.getElem?_drop,List.getElem?_drop];exact ho _ (.inr (by omega))
 have hx:m[p]? = some m[p]:=List.getElem?_eq_getElem (by omega)
 obtain⟨y,hy⟩:∃y,y=m[p]:=⟨_,rfl⟩;rw[←hy]at hx
 have key:∀d:Int,(pc m a b).filter (fun e=>decide (Day.day e=d))=(pc l a b).filter (fun e=>decide (Day.day e=d)):=by
  intro d
  have hf:=hs.2 d
  rw[show l.filter (fun e=>decide (Day.day e=d))=(l.take a++(pc l a b++l.drop b)).filter (fun e=>decide (Day.day e=d)) from congrArg _ (d1a h1 h2),
   show m.filter (fun e=>decide (Day.day e=d))=(m.take a++(pc m a b++m.drop b)).filter (fun e=>decide (Day.day e=d)) from congrArg _ (d1a h1 (by omega)),et,ed]at hf
  simp only[List.filter_append]at hf
  exact List.append_cancel_right (List.append_cancel_left hf)
 have hmem:y∈(pc m a b).filter (fun e=>decide (Day.day e=Day.day y)):=List.mem_filter.2 ⟨c9U hp1 hp2 hx,by simp⟩
 rw[key]at hmem
 obtain⟨hm1,hm2⟩:=List.mem_filter.1 hmem;obtain⟨q,q1,q2,q3⟩:=c1i hm1;exact⟨q,q1,q2,by rw[b6f hx,b6f q3]⟩
theorem c4y {l k:List α} {a m b:Nat} (h1:a≤m) (h2:m≤b) (h3:b≤l.length) (hk:k.length=l.length) (hr:∀q,k[q]? = a8f (l[·]?) m (m-a) (b-m) q):k=l.take a++(pc l m b++(pc l a m++l.drop b)):=by
 apply List.ext_getElem?
 intro q;rw[hr,a8f]
 have l1:(l.take a).length=a:=by rw[List.length_take];omega
 have l2:=c5A (l:=l) (a:=m) (b:=b) h3
 have l3:=c5A (l:=l) (a:=a) (b:=m) (by omega)
 rw[List.getElem?_append,l1,List.getElem?_append,l2,List.getElem?_append,l3,List.getElem?_take,b7a,b7a,List.getElem?_drop]
 repeat' split
 all_goals first
  |(exfalso;omega)
  |rfl
  |(congr 1;omega)
theorem c8a {l k:List α} {a m b:Nat} (h1:a≤m) (h2:m≤b) (h3:b≤l.length) (hk:k.length=l.length) (hr:∀q,k[q]? = a8f (l[·]?) m (m-a) (b-m) q) (hd:∀p q,a≤p→p<m→m≤q→q<b→a0C l q<a0C l p):Stb l k:=by
 have e:=c4y h1 h2 h3 hk hr
 have e2:l=l.take a++(pc l a m++(pc l m b++l.drop b)):=by
  conv=>lhs;rw[d1a (l:=l) (a:=a) (b:=m) h1 (by omega)]
  congr 2
  have:=d1a (l:=l.drop m) (a:=0) (b:=b-m) (by omega) (by rw[List.length_drop];omega)
  simp only[List.take_zero,List.nil_append,List.drop_drop,show m+(b-m)=b from by omega]at this
  exact this
 rw[e]
 conv=>arg 1;rw[e2]
 refine Stb.block fun x hx y hy=>?_
 obtain⟨p,p1,p2,p3⟩:=c1i hx;obtain⟨q,q1,q2,q3⟩:=c1i hy
 have:=hd p q p1 p2 q1 q2
 rw[b6f p3,b6f q3]at this
 omega
theorem c7Z {l k:List α} {m i j:Nat} (hr:∀q,k[q]? = a8f (l[·]?) m i j q) (q:Nat):a0C k q=if m-i≤q∧q<m-i+j then a0C l (q+i) else if m-i+j≤q∧q<m+j then a0C l (q-j) else a0C l q:=by
 unfold a0C;rw[hr,a8f]
 repeat' split
 all_goals rfl
theorem c4B {l m:List α} {a c b:Nat} (hs:Stb l m) (ho:∀k,k<a∨b≤k→m[k]? = l[k]?) (h1:∀p q,a≤p→p<q→q<c→a0C m p≤a0C m q) (h2:∀p q,c≤p→p<q→q<b→a0C m p≤a0C m q) (h3:∀p q,a≤p→p<c→c≤q→q<b→a0C m p≤a0C m q):Seg l m a b:=
 ⟨hs,ho,fun p q p1 p2 p3=>by
  rcases Nat.lt_or_ge q c with hq|hq
  ·exact h1 p q p1 p2 hq
  ·rcases Nat.lt_or_ge p c with hp|hp
   ·exact h3 p q p1 hp hq p3
   ·exact h2 p q hp p2 p3⟩
def SrtD (l:List α) (a b:Nat):Prop:=∀p q,a≤p→p<q→q<b→a0C l p≤a0C l q
theorem SrtD.le {l:List α} {a b:Nat} (h:SrtD l a b) {p q:Nat} (h1:a≤p) (h2:p≤q) (h3:q<b):a0C l p≤a0C l q:=by
 rcases Nat.lt_or_ge p q with hp|hp
 ·exact h p q h1 hp h3
 ·obtain rfl:p=q:=by omega
  exact Int.le_refl _
theorem SrtD.sub {l:List α} {a b a' b':Nat} (h:SrtD l a b) (h1:a≤a') (h2:b'≤b):SrtD l a' b':=fun p q p1 p2 p3=>h p q (by omega) p2 (by omega)
theorem SrtD.none {l:List α} {a b:Nat} (h:b≤a+1):SrtD l a b:=fun p q h1 h2 h3=>by omega
theorem Seg.toD {l m:List α} {a b:Nat} (h:Seg l m a b):SrtD m a b:=h.srt
structure Rot (l k:List α) (a s m e b:Nat):Prop where
 stb:Stb l k
 out:∀q,q<s∨e≤q→k[q]? = l[q]?
 day:∀q,a0C k q=if s≤q∧q<s+(e-m) then a0C l (q+(m-s)) else if s+(e-m)≤q∧q<e then a0C l (q-(e-m)) else a0C l q
theorem Rot.of {l k:List α} {a s m e b:Nat} (h1:s≤m) (h2:m≤e) (h3:e≤l.length) (hk:k.length=l.length) (hr:∀q,k[q]? = a8f (l[·]?) m (m-s) (e-m) q) (hd:∀p q,s≤p→p<m→m≤q→q<e→a0C l q<a0C l p):Rot l k a s m e b:=by
 refine⟨c8a h1 h2 h3 hk hr hd,fun q hq=>?_,fun q=>?_⟩
 ·rw[hr,a8f,if_neg (by omega),if_neg (by omega)]
 ·rw[c7Z hr,show m-(m-s)=s from by omega,show m+(e-m)=e from by omega]
theorem Rot.id {l:List α} {a s m e b:Nat} (h:s=m∨e=m) (h1:s≤m) (h2:m≤e):Rot l l a s m e b:=by
 refine⟨Stb.refl l,fun _ _=>rfl,fun q=>?_⟩
 rcases h with rfl|rfl
 ·split
  ·congr 1;omega
  ·split
   ·exfalso;omega
   ·rfl
 ·split
  ·exfalso;omega
  ·split
   ·congr 1;omega
   ·rfl
theorem Rot.len {l k:List α} {a s m e b:Nat} (h:Rot l k a s m e b):k.length=l.length:=h.stb.1.symm
theorem Rot.p1 {l k:List α} {a s m e b:Nat} (h:Rot l k a s m e b) (h1:SrtD l a m) (g1:s≤m):SrtD k a s:=fun p q p1 p2 p3=>by
 rw[h.day,h.day,if_neg (by omega),if_neg (by omega),if_neg (by omega),if_neg (by omega)];exact h1 p q p1 p2 (by omega)
theorem Rot.p2 {l k:List α} {a s m e b:Nat} (h:Rot l k a s m e b) (h2:SrtD l m b) (g1:s≤m) (g2:m≤e) (g3:e≤b):SrtD k s (s+(e-m)):=fun p q p1 p2 p3=>by
 rw[h.day,h.day,if_pos (by omega),if_pos (by omega)];exact h2 _ _ (by omega) (by omega) (by omega)
theorem Rot.p3 {l k:List α} {a s m e b:Nat} (h:Rot l k a s m e b) (h1:SrtD l a m) (g0:a≤s) (g1:s≤m) (g2:m≤e):SrtD k (s+(e-m)) e:=fun p q p1 p2 p3=>by
 rw[h.day,h.day,if_neg (by omega),if_pos (by omega),if_neg (by omega),if_pos (by omega)];exact h1 _ _ (by omega) (by omega) (by omega)
theorem Rot.p4 {l k:List α} {a s m e b:Nat} (h:Rot l k a s m e b) (h2:SrtD l m b) (g1:s≤m) (g2:m≤e):SrtD k e b:=fun p q p1 p2 p3=>by
 rw[h.day,h.day,if_neg (by omega),if_neg (by omega),if_neg (by omega),if_neg (by omega)];exact h2 p q (by omega) p2 p3
theorem Rot.cross {l k:List α} {a s m e b:Nat} (h:Rot l k a s m e b) (h1:SrtD l a m) (h2:SrtD l m b) (g0:a≤s) (g1:s≤m) (g2:m≤e) (g3:e≤b)
  (hx:∀p q,s≤p→p<m→m≤q→q<e→a0C l q<a0C l p) (hy:∀p q,a≤p→p<s→e≤q→q<b→a0C l p≤a0C l q) (p q:Nat) (p1:a≤p) (p2:p<s+(e-m)) (q1:s+(e-m)≤q) (q2:q<b):a0C k p≤a0C k q:=by
 rw[h.day p,h.day q]
 by_cases hp:s≤p
 ·rw[if_pos ⟨hp,p2⟩]
  by_cases hq:q<e
  ·rw[if_neg (by omega),if_pos ⟨q1,hq⟩];exact Int.le_of_lt (hx _ _ (by omega) (by omega) (by omega) (by omega))
  ·rw[if_neg (by omega),if_neg (by omega)];exact h2.le (by omega) (by omega) q2
 ·rw[if_neg (by omega),if_neg (by omega)]
  by_cases hq:q<e
  ·rw[if_neg (by omega),if_pos ⟨q1,hq⟩];exact h1.le p1 (by omega) (by omega)
  ·rw[if_neg (by omega),if_neg (by omega)];exact hy p q p1 (by omega) (by omega) q2
theorem Rot.done {l k k1 k2:List α} {a s m e b c:Nat} (h:Rot l k a s m e b) (h1:SrtD l a m) (h2:SrtD l m b) (g0:a≤s) (g1:s≤m) (g2:m≤e) (g3:e≤b) (g4:b≤l.length) (hc:s+(e-m)=c)
  (hx:∀p q,s≤p→p<m→m≤q→q<e→a0C l q<a0C l p) (hy:∀p q,a≤p→p<s→e≤q→q<b→a0C l p≤a0C l q) (s1:Seg k k1 a c) (s2:Seg k1 k2 c b):Seg l k2 a b:=by
 subst hc
 have hl:=h.len
 have hl1:=s1.len
 have d1:∀p,p<s+(e-m)→k2[p]? = k1[p]?:=fun p hp=>s2.out p (.inl hp)
 have d2:∀p,s+(e-m)≤p→k1[p]? = k[p]?:=fun p hp=>s1.out p (.inr hp)
 have e1:∀p,p<s+(e-m)→a0C k2 p=a0C k1 p:=fun p hp=>by unfold a0C;rw[d1 p hp]
 refine c4B (c:=s+(e-m)) (h.stb.trans (s1.stb.trans s2.stb)) (fun q hq=>?_) (fun p q p1 p2 p3=>?_) (fun p q p1 p2 p3=>s2.srt p q p1 p2 p3) (fun p q p1 p2 p3 p4=>?_)
 ·rw[s2.out q (by omega),s1.out q (by omega),h.out q (by omega)]
 ·rw[e1 p (by omega),e1 q p3];exact s1.srt p q p1 p2 p3
 ·rw[e1 p p2];obtain⟨p',a1,a2,a3⟩:=c1y s1.stb s1.out (by omega) (by omega) p1 p2;obtain⟨q',b1,b2,b3⟩:=c1y s2.stb s2.out (by omega) (by omega) p3 p4
  have:a0C k1 q'=a0C k q':=by unfold a0C;rw[d2 q' b1]
  rw[a3,b3,this];exact h.cross h1 h2 g0 g1 g2 g3 hx hy p' q' a1 a2 b1 b2
def bub (l:List α) (a:Nat):Nat→List α
 |0=>l
 |k+1=>swp (bub l a k) (a+k) (a+k+1)
theorem a9s (l:List α) (a:Nat):∀k,(bub l a k).length=l.length
 |0=>rfl
 |k+1=>by rw[bub,b5J,a9s l a k]
theorem b9t {l:List α} {a:Nat}:∀(n:Nat),a+n<l.length→∀k,(bub l a n)[k]? = a8f (l[·]?) (a+1) 1 n k
  | 0, _, k => by simp only [bub, a8f]; rw [if_neg (by omega)]; split; · congr 1
                  · rfl
  |n+1,h,k=>by
    have hl:=a9s l a n
    rw[bub,b0h (by omega) (by omega)]
    have ih:=b9t n (l:=l) (a:=a) (by omega)
    rw[ih,ih,ih]
    simp only[a8f]
    repeat' split
    all_goals first
      |(exfalso;omega)
      |rfl
      |(congr 1;omega)
def bud (l:List α) (m:Nat):Nat→List α
 |0=>l
 |k+1=>swp (bud l m k) (m-k) (m-k-1)
theorem a9t (l:List α) (m:Nat):∀k,(bud l m k).length=l.length
 |0=>rfl
 |k+1=>by rw[bud,b5J,a9t l m k]
theorem b9u {l:List α} {m:Nat} (hm:m<l.length):∀(n:Nat),n≤m→∀k,(bud l m n)[k]? = a8f (l[·]?) m n 1 k
  | 0, _, k => by simp only [bud, a8f]; split; · congr 1
                  · split
                    · exfalso;omega
                    · rfl
  |n+1,h,k=>by
    have hl:=a9t l m n
    rw[bud,b0h (by omega) (by omega)]
    have ih:=b9u hm n (by omega)
    rw[ih,ih,ih]
    simp only[a8f]
    repeat' split
    all_goals first
      |(exfalso;omega)
      |rfl
      |(congr 1;omega)
theorem b6I {l:List α} {a b i:Nat} (hs:SrtD l (a+1) b) (h1:a+1≤i) (h2:i≤b) (h3:b≤l.length) (hlo:∀q,a+1≤q→q<i→a0C l q<a0C l a) (hhi:∀q,i≤q→q<b→a0C l a≤a0C l q):Seg l (bub l a (i-1-a)) a b:=by
  have hR:Rot l (bub l a (i-1-a)) a a (a+1) i b:=Rot.of (by omega) h1 (by omega) (a9s _ _ _) (fun q=>by rw[b9t _ (by omega)];congr 1<;>omega)
    (fun p q p1 p2 p3 p4 => by obtain rfl : p = a := by omega
                               exact hlo q p3 p4)
  refine⟨hR.stb,fun k hk=>hR.out k (by omega),fun p q p1 p2 p3=>?_⟩;rw[hR.day p,hR.day q]
  by_cases hp:p<i-1
  · rw[if_pos (by omega)]
    by_cases hq:q<i-1
    · rw[if_pos (by omega)];exact hs _ _ (by omega) (by omega) (by omega)
    · by_cases hq2:q=i-1
      · rw[if_neg (by omega),if_pos (by omega),show q-(i-(a+1))=a from by omega];exact Int.le_of_lt (hlo _ (by omega) (by omega))
      · rw[if_neg (by omega),if_neg (by omega)];exact hs _ _ (by omega) (by omega) (by omega)
  · by_cases hp2:p=i-1
    · rw[if_neg (by omega),if_pos (by omega),if_neg (by omega),if_neg (by omega),show p-(i-(a+1))=a from by omega];exact hhi _ (by omega) p3
    · rw[if_neg (by omega),if_neg (by omega),if_neg (by omega),if_neg (by omega)];exact hs _ _ (by omega) (by omega) (by omega)
theorem b0V {l:List α} {a m i:Nat} (hs:SrtD l a m) (h1:a≤i) (h2:i≤m) (h3:m<l.length) (hlo:∀q,a≤q→q<i→a0C l q≤a0C l m) (hhi:∀q,i≤q→q<m→a0C l m<a0C l q):Seg l (bud l m (m-i)) a (m+1):=by
  have hR:Rot l (bud l m (m-i)) a i m (m+1) (m+1):=Rot.of h2 (by omega) (by omega) (a9t _ _ _) (fun q=>by rw[b9u h3 _ (by omega)];congr 1;omega)
    (fun p q p1 p2 p3 p4 => by obtain rfl : q = m := by omega
                               exact hhi p p1 p2)
  refine⟨hR.stb,fun k hk=>hR.out k (by omega),fun p q p1 p2 p3=>?_⟩;rw[hR.day p,hR.day q]
  by_cases hp:p<i
  · rw[if_neg (by omega),if_neg (by omega)]
    by_cases hq:q<i
    · rw[if_neg (by omega),if_neg (by omega)];exact hs _ _ (by omega) (by omega) (by omega)
    · by_cases hq2:q=i
      · rw[if_pos (by omega),show q+(m-i)=m from by omega];exact hlo _ (by omega) (by omega)
      · rw[if_neg (by omega),if_pos (by omega)];exact hs _ _ (by omega) (by omega) (by omega)
  · by_cases hp2:p=i
    · rw[if_pos (by omega),if_neg (by omega),if_pos (by omega),show p+(m-i)=m from by omega];exact Int.le_of_lt (hhi _ (by omega) (by omega))
    · rw[if_neg (by omega),if_pos (by omega),if_neg (by omega),if_pos (by omega)];exact hs _ _ (by omega) (by omega) (by omega)
theorem Seg.refl' {k:List α} {a c:Nat} (h:SrtD k a c):Seg k k a c:=⟨Stb.refl k,fun _ _=>rfl,h⟩
theorem Rot.left {l k:List α} {a s m e b c:Nat} (h:Rot l k a s m e b) (h1:SrtD l a m) (h2:SrtD l m b) (g1:s≤m) (g2:m≤e) (g3:e≤b) (hc:s+(e-m)=c) (hn:¬(a<s∧s<c)) (g0:a≤s):SrtD k a c:=by
 subst hc
 by_cases hs:a=s
 ·subst hs;exact h.p2 h2 g1 g2 g3
 ·exact (h.p1 h1 g1).sub (Nat.le_refl _) (by omega)
theorem Rot.right {l k:List α} {a s m e b c:Nat} (h:Rot l k a s m e b) (h1:SrtD l a m) (h2:SrtD l m b) (g0:a≤s) (g1:s≤m) (g2:m≤e) (hc:s+(e-m)=c) (hn:¬(c<e∧e<b)) (g3:e≤b):SrtD k c b:=by
 subst hc
 by_cases hs:e=b
 ·subst hs;exact h.p3 h1 g0 g1 g2
 ·exact (h.p4 h2 g1 g2).sub (by omega) (Nat.le_refl _)
theorem Seg.keepD {k k1:List α} {a c p q:Nat} (h:Seg k k1 a c) (hc:c≤p) (hs:SrtD k p q):SrtD k1 p q:=fun x y h1 h2 h3=>by
 have e:∀z,c≤z→a0C k1 z=a0C k z:=fun z hz=>by unfold a0C;rw[h.out z (.inr hz)]
 rw[e x (by omega),e y (by omega)];exact hs x y h1 h2 h3
theorem c1z {l:List α} {a m b c S R s:Nat} (m1:SrtD l a m) (m2:SrtD l m b) (ham:a<m) (hmb:m<b) (hc:c=(a+b) / 2) (hS:(c<m∧S=c+m-b∧R=c)∨(m≤c∧S=a∧R=m)) (hs1:S≤s) (hs2:s≤R)
  (lo:∀q,S≤q→q<s→a0C l q≤a0C l (c+m-1-q)) (hi:∀q,s≤q→q<R→a0C l (c+m-1-q)<a0C l q) :
  (∀p q,s≤p→p<m→m≤q→q<c+m-s→a0C l q<a0C l p)∧(∀p q,a≤p→p<s→c+m-s≤q→q<b→a0C l p≤a0C l q):=by
 refine⟨fun p q p1 p2 q1 q2=>?_,fun p q p1 p2 q1 q2=>?_⟩
 ·have hlt:s<R:=by omega
  have h1:=hi s (Nat.le_refl _) hlt
  have h2:=m1.le (p:=s) (q:=p) (by omega) p1 p2
  have h3:=m2.le (p:=q) (q:=c+m-1-s) q1 (by omega) (by omega)
  omega
 ·have hlt:S<s:=by omega
  have h1:=lo (s-1) (by omega) (by omega)
  have h2:=m1.le (p:=p) (q:=s-1) p1 (by omega) (by omega)
  have h3:=m2.le (p:=c+m-1-(s-1)) (q:=q) (by omega) (by omega) q2
  omega
theorem c5H {l:List α} {a m b c S R r h:Nat} (m1:SrtD l a m) (m2:SrtD l m b) (ham:a<m) (hmb:m<b) (hc:c=(a+b) / 2) (hS:(c<m∧S=c+m-b∧R=c)∨(m≤c∧S=a∧R=m)) (h1:S≤h) (h2:h<r) (h3:r≤R)
  (hd:a0C l h≤a0C l (c+m-1-h)) (q:Nat) (q1:S≤q) (q2:q<h+1):a0C l q≤a0C l (c+m-1-q):=by
 have e1:=m1.le (p:=q) (q:=h) (by omega) (by omega) (by omega)
 have e2:=m2.le (p:=c+m-1-h) (q:=c+m-1-q) (by omega) (by omega) (by omega)
 omega
theorem c5G {l:List α} {a m b c S R s h:Nat} (m1:SrtD l a m) (m2:SrtD l m b) (ham:a<m) (hmb:m<b) (hc:c=(a+b) / 2) (hS:(c<m∧S=c+m-b∧R=c)∨(m≤c∧S=a∧R=m)) (h1:S≤s) (h2:s≤h) (h3:h<R)
  (hd:a0C l (c+m-1-h)<a0C l h) (q:Nat) (q1:h≤q) (q2:q<R):a0C l (c+m-1-q)<a0C l q:=by
 have e1:=m1.le (p:=h) (q:=q) (by omega) (by omega) (by omega)
 have e2:=m2.le (p:=c+m-1-q) (q:=c+m-1-h) (by omega) (by omega) (by omega)
 omega
theorem b9N {l:List α} {i j:Nat} {hi:i<l.length} {hj:j<l.length} (h:b4H (Day.day l[i]) (Day.day l[j])<0):a0C l i<a0C l j:=by
 rw[a7c]at h;rw[a1z hi,a1z hj];exact h
theorem b9M {l:List α} {i j:Nat} {hi:i<l.length} {hj:j<l.length} (h:¬b4H (Day.day l[i]) (Day.day l[j])<0):a0C l j≤a0C l i:=by
 rw[a7c]at h;rw[a1z hi,a1z hj];omega
end Go.Sx
set_option linter.all false
namespace Go.Sx
open Go
variable {α:Type} [Day α]
inductive Pre (l:List α) (q:Nat):Nat→Prop
 |zero:Pre l q 0
 |snoc {a:Nat}:Pre l q a→SrtD l a (a+q)→Pre l q (a+q)
inductive Blk (l:List α) (q n:Nat):Nat→Prop
 |done {s:Nat}:n≤s→Blk l q n s
 |step {s:Nat}:SrtD l s (min (s+q) n)→Blk l q n (s+q)→Blk l q n s
theorem SrtD.same {l m:List α} {a b:Nat} (h:SrtD l a b) (he:∀k,a≤k→k<b→m[k]? = l[k]?):SrtD m a b:=fun p q p1 p2 p3=>by
 have e:∀z,a≤z→z<b→a0C m z=a0C l z:=fun z h1 h2=>by unfold a0C;rw[he z h1 h2]
 rw[e p p1 (by omega),e q (by omega) p3];exact h p q p1 p2 p3
theorem Pre.same {l m:List α} {q a:Nat} (h:Pre l q a) (he:∀k,k<a→m[k]? = l[k]?):Pre m q a:=by
 induction h with
 |zero=>exact .zero
 |snoc h1 h2 ih=>exact .snoc (ih fun k hk=>he k (by omega)) (h2.same fun k _ hk=>he k hk)
theorem Blk.same {l m:List α} {q n s:Nat} (h:Blk l q n s) (he:∀k,s≤k→k<n→m[k]? = l[k]?):Blk m q n s:=by
 induction h with
 |done h=>exact .done h
 |step h1 h2 ih=>exact .step (h1.same fun k h3 h4=>he k h3 (by omega)) (ih fun k hk hk2=>he k (by omega) hk2)
theorem Pre.blk {l:List α} {q n a:Nat} (h:Pre l q a) (han:a≤n) (hb:Blk l q n a):Blk l q n 0:=by
 induction h with
 |zero=>exact hb
 |snoc h1 h2 ih=>exact ih (by omega) (.step (h2.sub (Nat.le_refl _) (by omega)) hb)
theorem Pre.put {l m:List α} {q a:Nat} (h:Pre l q a) (hs:Seg l m a (a+q)):Pre m q (a+q):=.snoc (h.same fun k hk=>hs.out k (.inl hk)) hs.srt
theorem Pre.last {l m:List α} {q a n:Nat} (h:Pre l q a) (hs:Seg l m a n) (han:a≤n) (hq:n<a+q):Blk m q n 0:=
 (h.same fun k hk=>hs.out k (.inl hk)).blk han (.step (hs.toD.sub (Nat.le_refl _) (by omega)) (.done (by omega)))
theorem Blk.two {l:List α} {q n s:Nat} (h:Blk l q n s) (hs:s+2 * q≤n) (hq:1≤q):SrtD l s (s+q)∧SrtD l (s+q) (s+2 * q)∧Blk l q n (s+2 * q):=by
 cases h with
 |done h=>omega
 |step h1 h2=>cases h2 with
  |done h=>omega
  |step h3 h4=>exact⟨h1.sub (Nat.le_refl _) (by omega),h3.sub (Nat.le_refl _) (by omega),by rw[show s+2 * q=s+q+q from by omega];exact h4⟩
theorem Blk.one {l:List α} {q n s:Nat} (h:Blk l q n s) (hs:s+q<n):SrtD l s (s+q)∧(n≤s+2 * q→SrtD l (s+q) n):=by
 cases h with
 |done h=>omega
 |step h1 h2=>cases h2 with
  |done h=>omega
  |step h3 h4=>exact⟨h1.sub (Nat.le_refl _) (by omega),fun h=>h3.sub (Nat.le_refl _) (by omega)⟩
theorem Blk.all {l:List α} {q n s:Nat} (h:Blk l q n s) (hs:n≤s+q):SrtD l s n:=by
 cases h with
 |done h=>exact SrtD.none (by omega)
 |step h1 h2=>exact h1.sub (Nat.le_refl _) (by omega)
def b4w (l:List α):Prop:=l.Pairwise fun x y=>Day.day x≤Day.day y
theorem SrtD.pw {l:List α} (h:SrtD l 0 l.length):b4w l:=by
 rw[b4w,List.pairwise_iff_getElem];intro i j hi hj hij
 have:=h i j (Nat.zero_le _) hij hj
 rwa[a1z hi,a1z hj]at this
theorem c1B:∀(m m':List α),b4w m→b4w m'→(∀d:Int,m.filter (fun e=>decide (Day.day e=d))=m'.filter (fun e=>decide (Day.day e=d)))→m=m':=by
 intro m
 induction m with
 |nil=>
  intro m' _ _ h
  cases m' with
  |nil=>rfl
  |cons y r=>have:=h (Day.day y);simp at this
 |cons x r ih=>
  intro m' h1 h2 h
  cases m' with
  |nil=>have:=h (Day.day x);simp at this
  |cons y r'=>
   unfold b4w at h1 h2
   rw[List.pairwise_cons]at h1 h2
   have hx:x∈(y::r'):=by
    have:x∈(y::r').filter (fun e=>decide (Day.day e=Day.day x)):=by rw[←h];simp
    exact (List.mem_filter.1 this).1
   have hy:y∈(x::r):=by
    have:y∈(x::r).filter (fun e=>decide (Day.day e=Day.day y)):=by rw[h];simp
    exact (List.mem_filter.1 this).1
   have d1:Day.day y≤Day.day x:=by
    rcases List.mem_cons.1 hx with e|hx
    ·rw[e];exact Int.le_refl _
    ·exact h2.1 x hx
   have d2:Day.day x≤Day.day y:=by
    rcases List.mem_cons.1 hy with e|hy
    ·rw[e];exact Int.le_refl _
    ·exact h1.1 y hy
   have hd:Day.day y=Day.day x:=Int.le_antisymm d1 d2
   have h0:=h (Day.day x)
   simp only[List.filter_cons,hd,decide_true,if_true,List.cons.injEq]at h0
   obtain⟨rfl,h0⟩:=h0
   congr 1
   refine ih r' h1.2 h2.2 fun d=>?_
   have h3:=h d
   simp only[List.filter_cons]at h3
   split at h3
   ·simpa using h3
   ·exact h3
def a8I (e:α):List α→List α
 | []=>[e]
 |x::r=>if Day.day e≤Day.day x then e::x::r else x::a8I e r
def a1m (l:List α):List α:=l.foldr a8I []
theorem b6t {e y:α}:∀{l:List α},y∈a8I e l↔y=e∨y∈l
 | []=>by simp[a8I]
 |x::r=>by
  simp only[a8I]
  split
  ·simp
  ·simp only[List.mem_cons,b6t (l:=r)]
   constructor
   ·rintro (h|h|h)
    ·exact .inr (.inl h)
    ·exact .inl h
    ·exact .inr (.inr h)
   ·rintro (h|h|h)
    ·exact .inr (.inl h)
    ·exact .inl h
    ·exact .inr (.inr h)
theorem b6u {e:α}:∀{l:List α},b4w l→b4w (a8I e l)
 | [],_=>by simp[a8I,b4w]
 |x::r,h=>by
  unfold b4w at h
  have h':=List.pairwise_cons.1 h
  simp only[a8I]
  split
  ·rename_i hd
   refine List.pairwise_cons.2 ⟨fun y hy=>?_,h⟩
   rcases List.mem_cons.1 hy with rfl|hy
   ·exact hd
   ·exact Int.le_trans hd (h'.1 y hy)
  ·rename_i hd
   refine List.pairwise_cons.2 ⟨fun y hy=>?_,b6u h'.2⟩
   rcases b6t.1 hy with rfl|hy
   ·omega
   ·exact h'.1 y hy
theorem b6r (e:α):∀l:List α,(a8I e l).length=l.length+1
  | []=>rfl
  | x :: r => by simp only [a8I]; split; · simp
                 · simp[b6r e r]
theorem a9F (e:α) (d:Int):∀l:List α,(a8I e l).filter (fun e=>decide (Day.day e=d))=(e::l).filter (fun e=>decide (Day.day e=d))
 | []=>rfl
 |x::r=>by
  simp only[a8I]
  split
  ·rfl
  ·rename_i hd
   rw[List.filter_cons,a9F e d r]
   simp only[List.filter_cons]
   by_cases h1:Day.day x=d
   ·by_cases h2:Day.day e=d
    ·omega
    ·simp[h1,h2]
   ·simp[h1]
theorem a4M:∀l:List α,b4w (a1m l)
 | []=>List.Pairwise.nil
 |x::r=>b6u (a4M r)
theorem a4c:∀l:List α,(a1m l).length=l.length
 | []=>rfl
 |x::r=>(b6r x (a1m r)).trans (by rw[a4c r];rfl)
theorem a3w (d:Int):∀l:List α,(a1m l).filter (fun e=>decide (Day.day e=d))=l.filter (fun e=>decide (Day.day e=d))
 | []=>rfl
 |x::r=>(a9F x d (a1m r)).trans (by rw[List.filter_cons,List.filter_cons,a3w d r])
theorem b7v {l m:List α} (h:Stb l m) (hs:b4w m):m=a1m l:=c1B m _ hs (a4M l) fun d=>by rw[h.2 d,a3w]
theorem a5w {l:List α} {x:α}:x∈a1m l↔x∈l:=by
 have h:∀(m:List α),x∈m↔x∈m.filter (fun e=>decide (Day.day e=Day.day x)):=fun m=>by simp
 rw[h,a3w,←h]
section
variable {P:Program} {n:Sz} {E:Ent} {I:IMap} {L:LL} {H:List Res} {K:Act→World→Prop}
theorem c1M {g e k m:Nat} {xss:List (List Value)} (hU:Uk k xss) (hm:xss.length=m) (hl:m≤maxLen) (h:SX n E I L (.row (.slice (some ⟨g,0,none⟩) m m) e k m xss.flatten::H) K):SX n E I L (.blk g e xss.flatten::H) K:=by
 have:=a2L (rest:=[]) hU (fun c hc=>(by cases hc)) hm (by simp) hl h
 simpa using this
end
end Go.Sx
set_option linter.all false
namespace Go.Sx
open Go
def c8U (P:Program) (l:Nat) (args:List Value) (I:IMap) (H:List Res) (post:Value→IMap→List Res→Prop):Prop:=
 ∀w,Mem ⟨a2l H,I,w⟩ I H w→After P (Instr.yield l args.toArray) w (a8L ⟨a2l H,I,w⟩ post)
def a6B {α:Type} (P:Program) (l:Nat) (rd:IMap→List Value→α→Prop) (ok:List α→α→Prop) (J:Bool→List α→IMap→List Res→Prop):Prop:=
 ∀pre x vs I H,J true pre I H→rd I vs x→ok pre x→c8U P l vs I H fun u I' H'=>∃b,u = .bool b∧J b (pre++[x]) I' H'
def c2q {α:Type} (J:Bool→List α→IMap→List Res→Prop):Prop:=∀b pre I I' H,ILe I I'→J b pre I H→J b pre I' H
def d0Y {α:Type} (P:Program) (f:FuncId) (cap:List Value) (I0:IMap) (rd:IMap→List Value→α→Prop) (ok:List α→α→Prop) (full part:List α→Prop):Prop:=
 ∀(l:Nat) (J:Bool→List α→IMap→List Res→Prop) (I:IMap) (Hc:List Res),ILe I0 I→c2q J→a6B P l rd ok J→J true [] I Hc →
  FnH P f (.func (.yield l) #[] #[]::cap).toArray I Hc fun _ I' H'=>∃b pre,J b pre I' H'∧(if b then full pre else part pre)
section
variable {P:Program} {ρ:Option Nat} {n:Sz} {E:Ent} {I I':IMap} {L:LL} {H:List Res} {Q:Exit→Act→World→Prop} {ops:Array Oper} {K:Act→World→Prop}
variable {d ty:Nat} {pos:String} {af:Array Edge}
theorem b0E {a:Act} {w:World} {fo:Operand} {as_:List Operand} {ats:Array TypeId} {l:Nat} {args:List Value} (s:St n a L) (hf:ev L fo=some (.func (.yield l) #[] #[])) (ha:evs L as_=some args) (o:Oper)
  (ho:o.op = .call { callee:=.value fo,args:=as_.toArray,argTypes:=ats }):(execOp a.eval o).run P w=(Instr.yield l args.toArray).run P w:=by
 have ha':as_.toArray.map a.eval=args.toArray:=by rw[←a6j s as_ args ha];simp
 simp only[execOp,ho,resolve,ha',s.ev hf,Deferred.ofValue,Sem.run_bind,Sem.run_pure,Result.andThen_ok,invoke]
 congr 1
 congr 1
 simp
theorem c1b {α:Type} {l:Nat} {rd:IMap→List Value→α→Prop} {ok:List α→α→Prop} {J:Bool→List α→IMap→List Res→Prop} {Hc:List Res} {fo:Operand} {as_:List Operand} {ats:Array TypeId} {vs:List Value} {pre:List α} {x:α}
  (hy:a6B P l rd ok J) (hJ:J true pre I Hc) (hr:rd I vs x) (hk:ok pre x) (hf:ev L fo=some (.func (.yield l) #[] #[])) (ha:evs L as_=some vs) (hd:Nat.blt d n.sz=true)
  (k:∀b I' Hc',ILe I I'→J b (pre++[x]) I' Hc'→SX n E I' ((d,.bool b)::L) (H++Hc') K) :
  SX n E I L (H++Hc) (one P ops Q ⟨some d,.call { callee:=.value fo,args:=as_.toArray,argTypes:=ats },ty,pos,af,none⟩ K):=by
 refine a4l List.perm_append_comm ?_;refine b5k (hy pre x vs I Hc hJ hr hk) (fun a w s=>b0E s hf ha _ rfl) hd fun v I' H' hI hp=>?_
 obtain⟨b,rfl,hp⟩:=hp;exact a4l List.perm_append_comm (k b I' H' hI hp)
def putAll:List (Nat×Value)→LL→LL
 | [],L=>L
 |(i,v)::r,L=>putAll r ((i,v)::L)
theorem St.putAll {k:Nat}:∀(ps:List (Nat×Value)) {a:Act} {L:LL},St ⟨k,[]⟩ a L→(∀p∈ps,p.1<k)→St ⟨k,[]⟩ { a with tmps:=ps.foldl (fun t p=>t.setIfInBounds p.1 p.2) a.tmps } (putAll ps L)
 | [],_,_,s,_=>s
 |(i,v)::r,a,L,s,h=>by
  have hi:i<k:=h (i,v) (by simp)
  have s1:St ⟨k,[]⟩ (a.put (some i) v) ((i,v)::L):=s.put (by simpa[Nat.blt_eq]using hi)
  exact St.putAll r s1 (fun p hp=>h p (by simp[hp]))
structure Rec where
 l:Nat
 D:Nat
 ready:Loop
 hs:ready.state = .ready
 hp:ready.pending=none
def Rec.busy (r:Rec):Loop:={ r.ready with state:=.busy }
def Rec.done (r:Rec) (c:Code):Loop:={ r.ready with state:=.done,pending:=some c }
def Rec.mark (r:Rec):Res:=.any r.D (.deferred (some []))
def JR {α σ:Type} (I0:IMap) (r:Rec) (Hx:σ→List Res) (p:List α→IMap→σ→Prop) (px:List α→IMap→σ→Code→Prop):Bool→List α→IMap→List Res→Prop
 |true,pre,I,H=>∃s,H = .any r.l (.loop r.ready)::r.mark::Hx s∧ILe I0 I∧p pre I s
 |false,pre,I,H=>∃s c,H = .any r.l (.loop (r.done c))::r.mark::Hx s∧ILe I0 I∧px pre I s c
def d1k {α σ:Type} (P:Program) (E:Ent) (I0:IMap) (r:Rec) (Hx:σ→List Res) (p:List α→IMap→σ→Prop) (px:List α→IMap→σ→Code→Prop) (pre:List α):Exit→Act→World→Prop:=
 roundPost P r.l (a8L E fun u I' H'=>∃b,u = .bool b∧JR I0 r Hx p px b pre I' H')
def c5g (P:Program) (r:Rec) (body:Code) (R:Exit→Act→World→Prop):Exit→Act→World→Prop:=
 Exit.then (fun a w=>∃w',(Instr.beginRound r.l).run P w = .ok () w'∧body.wq (some r.l) P R a w') (fun _ _ _=>False)
variable {α σ:Type} {I0:IMap} {r:Rec} {Hx:σ→List Res} {p:List α→IMap→σ→Prop} {px:List α→IMap→σ→Code→Prop} {pre:List α}
theorem a6f {w:World} {o o':Loop} {l:Nat} (m:Mem E I (.any l (.loop o)::H) w):Mem E I (.any l (.loop o')::H) (w.putObj l (.loop o')):=by
 have hr:w.heap[l]? = some (.loop o):=m.holds _ (List.mem_cons_self ..)
 have hlt:l<w.heap.size:=(Array.getElem?_eq_some_iff.1 hr).1
 exact m.step rfl ⟨rfl,Nat.le_refl _⟩ rfl (by simp) (fun k hk hne=>World.putObj_heap_other (fun e=>hne (by subst e;rfl))) (World.putObj_heap_same hlt) (fun g hg=>.inl hg)
theorem b2u {body:Code} {R:Exit→Act→World→Prop} (h:SX n E I L (.any r.l (.loop r.busy)::H) (body.wq (some r.l) P R)):SX n E I L (.any r.l (.loop r.ready)::H) (c5g P r body R .normal):=by
 intro a w s m
 have hl:w.heap[r.l]? = some (.loop r.ready):=m.holds _ (List.mem_cons_self ..)
 exact⟨_,run_beginRound hl r.hs,h a _ s (a6f m)⟩
theorem b1l (s':σ) (hI:ILe I0 I) (hp:p pre I s') (hH:H=Hx s'):SX n E I L (.any r.l (.loop r.busy)::r.mark::H) (d1k P E I0 r Hx p px pre .normal):=by
 subst hH;intro a w s m
 have hl:w.heap[r.l]? = some (.loop r.busy):=m.holds _ (List.mem_cons_self ..)
 refine⟨_,_,run_endRound none hl,.bool true,I,_,rfl,a6f m,true,rfl,s',?_,hI,hp⟩
 have:(({ r.busy with state:=if (none:Option Code).isNone=true then .ready else .done,pending:=none }:Loop))=r.ready:=by
  have h1:=r.hs;have h2:=r.hp
  unfold Rec.busy
  cases hr:r.ready
  rw[hr]at h1 h2
  simp only at h1 h2
  subst h1 h2
  rfl
 rw[this]
theorem d0u {c:Code} (s':σ) (hI:ILe I0 I) (hp:px pre I s' c) (hH:H=Hx s') {a:Act} {w:World} (m:Mem E I (.any r.l (.loop r.busy)::r.mark::H) w) :
  ∃v w',(Instr.endRound r.l (some c)).run P w = .ok v w'∧a8L E (fun u I' H'=>∃b,u = .bool b∧JR I0 r Hx p px b pre I' H') (.returned v) w':=by
 subst hH
 have hl:w.heap[r.l]? = some (.loop r.busy):=m.holds _ (List.mem_cons_self ..)
 exact⟨_,_,run_endRound (some c) hl,.bool false,I,_,rfl,a6f m,false,rfl,s',c,rfl,hI,hp⟩
theorem d0t {id:Nat} (s':σ) (hI:ILe I0 I) (hp:px pre I s' (.exit id)) (hH:H=Hx s'):SX n E I L (.any r.l (.loop r.busy)::r.mark::H) (d1k P E I0 r Hx p px pre (.exit id)):=fun _ _ _ m=>d0u (a:=⟨#[],[]⟩) s' hI hp hH m
theorem b1P {k gf:Nat} {D:List Mk} {H0:List Res} {g:Operand} {ps:List Nat} {assign body:Code} {cap:List Value} {rd:IMap→List Value→α→Prop} {ok:List α→α→Prop} {full part:List α→Prop}
  (s0:σ) (Hx:σ→List Res) (p:List α→IMap→σ→Prop) (px:List α→IMap→σ→Code→Prop)
  (hg:ev L g=some (.func (.func gf) #[] cap.toArray)) (hcall:∀(args:Array Value) (w:World),(callFunc gf args).run P w = .ok (.enter gf args) w)
  (hit:d0Y P gf cap I rd ok full part) (hlen:∀I vs x,rd I vs x→vs.length=ps.length) (hps:ps.all (fun i=>Nat.blt i k)=true)
  (hmp:∀pre I I' s,ILe I I'→p pre I s→p pre I' s) (hmx:∀pre I I' s c,ILe I I'→px pre I s c→px pre I' s c)
  (h0:p [] I s0) (hH:Hx s0++H0=H)
  (round:∀(r:Rec) (E1:Ent) pre x vs I1 s,ILe I I1→p pre I1 s→rd I1 vs x→ok pre x →
   SX ⟨k,[]⟩ E1 I1 (putAll (ps.zip vs) L) (.any r.l (.loop r.ready)::r.mark::Hx s) (assign.wq (some r.l) P (c5g P r body (d1k P E1 I r Hx p px (pre++[x])))))
  (hdone:∀D' pre I1 s,ILe I I1→full pre→p pre I1 s→SX ⟨k,.m D'::D⟩ E I1 L (.any D' (.deferred (some []))::(Hx s++H0)) (Q .normal))
  (hstop:∀D' pre I1 s c,ILe I I1→part pre→px pre I1 s c→SX ⟨k,.m D'::D⟩ E I1 L (.any D' (.deferred (some []))::(Hx s++H0)) (c.wq none P Q)) :
  SX ⟨k,D⟩ E I L H ((Code.rangeFunc g ps.toArray assign body).wq none P Q):=by
 subst hH;intro a w s m;refine wpIn_rangeFunc ?_;intro fn _;obtain⟨rec,hrec⟩:∃rec:Loop,rec = { state:=.ready,pending:=none,fn,tmps:=a.tmps,params:=ps.toArray,assign,body,defers:=w.heap.size }:=⟨_,rfl⟩;obtain⟨W1,hW1⟩:∃W1,(w.alloc (.deferred (some []))).alloc (.loop rec)=W1:=⟨_,rfl⟩;obtain⟨r,hr⟩:∃r:Rec,r=⟨w.heap.size+1,w.heap.size,rec,by rw[hrec],by rw[hrec]⟩:=⟨_,rfl⟩
 have hrl:r.l=w.heap.size+1:=by rw[hr]
 have hrD:r.D=w.heap.size:=by rw[hr]
 have hrr:r.ready=rec:=by rw[hr]
 have hevg:a.eval g = .func (.func gf) #[] cap.toArray:=s.ev hg
 refine⟨w.heap.size+1,[{ target:=.collected w.heap.size,args:=#[] }],W1,{ target:=.fn (.func gf) cap.toArray,args:=#[.func (.yield (w.heap.size+1)) #[] #[]] },W1,gf,
  #[.func (.yield (w.heap.size+1)) #[] #[]]++cap.toArray,W1,?_,?_,fun _ _=>trivial,?_,fun h=>by simp[fen,Fence.wide]at h,?_⟩
 ·rw[←hW1,hrec];exact run_enterLoop_outer _ _ _ _ _
 ·simp only[resolve,hevg]
  simp[go_sem]
 ·simp[invoke,go_sem,hcall]
 have m1:Mem E I (.any r.D (.deferred (some []))::(Hx s0++H0)) (w.alloc (.deferred (some []))):=by
  rw[hrD];exact m.new rfl ⟨rfl,Nat.le_refl _⟩ rfl (by simp) (fun k hk=>a5k w _ k hk) (heap_alloc_new w _) fun g hg=>by simp only[Res.foot,Option.some.injEq]at hg;omega
 have m2:Mem E I ((.any r.l (.loop r.ready)::r.mark::Hx s0)++H0) W1:=by
  rw[hrl,hrr,←hW1]
  have hsz:(w.alloc (.deferred (some []))).heap.size=w.heap.size+1:=by simp
  refine m1.new rfl ⟨rfl,Nat.le_refl _⟩ rfl (by simp) (fun k hk=>a5k _ _ k hk) ?_ fun g hg=>by simp only[Res.foot,Option.some.injEq]at hg;omega
  have:=heap_alloc_new (w.alloc (.deferred (some []))) (.loop rec)
  rw[hsz]at this
  exact this
 -- the rounds
 have hJm:c2q (JR I r Hx p px):=by
  rintro (_|_) pre I1 I2 H1 hle ⟨s1,h⟩
  ·obtain⟨c,h1,h2,h3⟩:=h;exact⟨s1,c,h1,h2.trans hle,hmx _ _ _ _ _ hle h3⟩
  ·obtain⟨h1,h2,h3⟩:=h;exact⟨s1,h1,h2.trans hle,hmp _ _ _ _ hle h3⟩
 have hy:a6B P r.l rd ok (JR I r Hx p px):=by
  rintro pre x vs I1 H1 ⟨s1,rfl,hle,hp1⟩ hx hok w1 mw
  have hl1:w1.heap[r.l]? = some (.loop r.ready):=mw.holds _ (List.mem_cons_self ..)
  have hI1:=round r ⟨a2l (.any r.l (.loop r.ready)::r.mark::Hx s1),I1,w1⟩ pre x vs I1 s1 hle hp1 hx hok
  have hvl:vs.toArray.size=r.ready.params.size:=by rw[hrr,hrec];simp[hlen _ _ _ hx]
  unfold After;rw[run_yield (P:=P) hl1 hvl];refine roundIn_of_wpIn trivial ?_
  have st1:St ⟨k,[]⟩ { tmps:=((r.ready.params.zip vs.toArray).foldl (fun tmps x=>tmps.setIfInBounds x.1 x.2) r.ready.tmps),defers:=[] } (putAll (ps.zip vs) L):=by
   have h0:St ⟨k,[]⟩ { a with defers:=[] } L:=⟨s.size,rfl,s.get⟩
   have h1:=h0.putAll (ps.zip vs) (fun q hq=>by
    have h2:=List.all_eq_true.1 hps q.1 (List.of_mem_zip hq).1
    simpa[Nat.blt_eq]using h2)
   have e:(r.ready.params.zip vs.toArray).foldl (fun tmps x=>tmps.setIfInBounds x.1 x.2) r.ready.tmps=(ps.zip vs).foldl (fun t p=>t.setIfInBounds p.1 p.2) a.tmps:=by
    rw[hrr,hrec]
    simp
   rw[e];exact h1
  have m1:=Mem.call (E:=⟨a2l (.any r.l (.loop r.ready)::r.mark::Hx s1),I1,w1⟩) (Hc:=.any r.l (.loop r.ready)::r.mark::Hx s1) (H0:=[]) (by simpa using mw)
  have h3:=hI1 _ _ st1 m1
  have e2:r.ready.assign=assign:=by rw[hrr,hrec]
  have e3:r.ready.body=body:=by rw[hrr,hrec]
  rw[e2,e3];exact h3
 have hf:=(hit r.l (JR I r Hx p px) I _ (ILe.refl I) hJm hy ⟨s0,rfl,ILe.refl I,h0⟩).go W1 m2.call
 unfold After at hf
 rw[hcall]at hf
 have hargs:#[.func (.yield (w.heap.size+1)) #[] #[]]++cap.toArray=(Value.func (.yield r.l) #[] #[]::cap).toArray:=by rw[hrl];simp
 rw[hargs];refine a9v (Calls.mono hf ?_);rintro e w2 ⟨v,I',H',rfl,hm',b,pre,hJ,hfp⟩
 have hb:=m2.back hm'
 have hsame:∀_:Unit,St ⟨k,.m r.D::D⟩ { a with defers:=[{ target:=.collected w.heap.size,args:=#[] }]++a.defers } L:=fun _=>⟨s.size,by rw[hrD];show _::a.defers=_;rw[s.defers];rfl,s.get⟩
 cases b with
 |true=>
  obtain⟨s2,rfl,hle,hp2⟩:=hJ
  have hl2:w2.heap[w.heap.size+1]? = some (.loop r.ready):=by rw[←hrl];exact hb.holds _ (List.mem_cons_self ..)
  refine⟨none,_,by have:=run_endLoop (P:=P) hl2 (by rw[r.hs];simp);rw[r.hp]at this;exact this,?_⟩;rw[←hrl]
  have m3:=(a6f (o':={ r.ready with state:=.exhausted,pending:=none }) hb).drop
  exact hdone r.D pre I' s2 hle hfp hp2 _ _ (hsame ()) m3
 |false=>
  obtain⟨s2,c,rfl,hle,hp2⟩:=hJ
  have hl2:w2.heap[w.heap.size+1]? = some (.loop (r.done c)):=by rw[←hrl];exact hb.holds _ (List.mem_cons_self ..)
  refine⟨some c,_,by have:=run_endLoop (P:=P) hl2 (by simp[Rec.done]);exact this,?_⟩;rw[←hrl]
  have m3:=(a6f (o':={ r.done c with state:=.exhausted }) hb).drop
  exact hstop r.D pre I' s2 c hle hfp hp2 _ _ (hsame ()) m3
end
end Go.Sx
set_option linter.all false
namespace Go.Sx
open Go
section
variable {P:Program} {ρ:Option Nat} {n:Sz} {E:Ent} {I I':IMap} {L:LL} {H:List Res} {K:Act→World→Prop} {Q:Exit→Act→World→Prop} {ops:Array Oper} {N:Act→World→Prop}
variable {α β γ δ ε:Type}
def c5c (n:Sz) (E:Ent) (Ix:α→β→γ→δ→IMap) (Lx:α→β→γ→δ→LL) (Hx:α→β→γ→δ→List Res) (p:α→β→γ→δ→Prop) (μ:α→β→γ→δ→Nat) (x:α) (y:β) (z:γ) (t:δ):Act→World→Prop:=
 fun a w=>∃x' y' z' t',p x' y' z' t'∧μ x' y' z' t'<μ x y z t∧St n a (Lx x' y' z' t')∧Mem E (Ix x' y' z' t') (Hx x' y' z' t') w
theorem a5b (x0:α) (y0:β) (z0:γ) (t0:δ) (Ix:α→β→γ→δ→IMap) (Lx:α→β→γ→δ→LL) (Hx:α→β→γ→δ→List Res) (p:α→β→γ→δ→Prop) (μ:α→β→γ→δ→Nat) {c:Code}
  (h0:p x0 y0 z0 t0) (hI:Ix x0 y0 z0 t0=I) (hL:Sub (Lx x0 y0 z0 t0) L) (hH:Hx x0 y0 z0 t0=H)
  (round:∀x y z t,p x y z t→SX n E (Ix x y z t) (Lx x y z t) (Hx x y z t) (c.wq ρ P (Exit.then (c5c n E Ix Lx Hx p μ x y z t) Q))):SX n E I L H ((Code.loop c).wq ρ P Q):=
 a0L (α:=α×β×γ×δ) (x0,y0,z0,t0) (fun q=>Ix q.1 q.2.1 q.2.2.1 q.2.2.2) (fun q=>Lx q.1 q.2.1 q.2.2.1 q.2.2.2) (fun q=>Hx q.1 q.2.1 q.2.2.1 q.2.2.2) (fun q=>p q.1 q.2.1 q.2.2.1 q.2.2.2) (fun q=>μ q.1 q.2.1 q.2.2.1 q.2.2.2) h0 hI hL hH
  fun ⟨x,y,z,t⟩ hp=>b2E (round x y z t hp) fun a w h=>a4o (fun e a w q=>by
   cases e with
   |normal=>obtain⟨x',y',z',t',h1,h2,h3,h4⟩:=q;exact⟨(x',y',z',t'),h1,h2,h3,h4⟩
   |_=>exact q) h
theorem a2U {Ix:α→β→γ→δ→IMap} {Lx:α→β→γ→δ→LL} {Hx:α→β→γ→δ→List Res} {p:α→β→γ→δ→Prop} {μ:α→β→γ→δ→Nat} {x:α} {y:β} {z:γ} {t:δ} (x':α) (y':β) (z':γ) (t':δ) (hp:p x' y' z' t') (hμ:μ x' y' z' t'<μ x y z t)
  (hI:Ix x' y' z' t'=I) (hL:Sub (Lx x' y' z' t') L) (hH:Hx x' y' z' t'=H):SX n E I L H (c5c n E Ix Lx Hx p μ x y z t):=
 fun a w s m=>⟨x',y',z',t',hp,hμ,s.sub hL,by rw[hI,hH];exact m⟩
def c5d (n:Sz) (E:Ent) (Ix:α→β→γ→δ→ε→IMap) (Lx:α→β→γ→δ→ε→LL) (Hx:α→β→γ→δ→ε→List Res) (p:α→β→γ→δ→ε→Prop) (μ:α→β→γ→δ→ε→Nat) (x:α) (y:β) (z:γ) (t:δ) (u:ε):Act→World→Prop:=
 fun a w=>∃x' y' z' t' u',p x' y' z' t' u'∧μ x' y' z' t' u'<μ x y z t u∧St n a (Lx x' y' z' t' u')∧Mem E (Ix x' y' z' t' u') (Hx x' y' z' t' u') w
theorem b1O (x0:α) (y0:β) (z0:γ) (t0:δ) (u0:ε) (Ix:α→β→γ→δ→ε→IMap) (Lx:α→β→γ→δ→ε→LL) (Hx:α→β→γ→δ→ε→List Res) (p:α→β→γ→δ→ε→Prop) (μ:α→β→γ→δ→ε→Nat) {c:Code}
  (h0:p x0 y0 z0 t0 u0) (hI:Ix x0 y0 z0 t0 u0=I) (hL:Sub (Lx x0 y0 z0 t0 u0) L) (hH:Hx x0 y0 z0 t0 u0=H)
  (round:∀x y z t u,p x y z t u→SX n E (Ix x y z t u) (Lx x y z t u) (Hx x y z t u) (c.wq ρ P (Exit.then (c5d n E Ix Lx Hx p μ x y z t u) Q))):SX n E I L H ((Code.loop c).wq ρ P Q):=
 a0L (α:=α×β×γ×δ×ε) (x0,y0,z0,t0,u0) (fun q=>Ix q.1 q.2.1 q.2.2.1 q.2.2.2.1 q.2.2.2.2) (fun q=>Lx q.1 q.2.1 q.2.2.1 q.2.2.2.1 q.2.2.2.2) (fun q=>Hx q.1 q.2.1 q.2.2.1 q.2.2.2.1 q.2.2.2.2) (fun q=>p q.1 q.2.1 q.2.2.1 q.2.2.2.1 q.2.2.2.2) (fun q=>μ q.1 q.2.1 q.2.2.1 q.2.2.2.1 q.2.2.2.2) h0 hI hL hH
  fun ⟨x,y,z,t,u⟩ hp=>b2E (round x y z t u hp) fun a w h=>a4o (fun e a w q=>by
   cases e with
   |normal=>obtain⟨x',y',z',t',u',h1,h2,h3,h4⟩:=q;exact⟨(x',y',z',t',u'),h1,h2,h3,h4⟩
   |_=>exact q) h
theorem a6P {Ix:α→β→γ→δ→ε→IMap} {Lx:α→β→γ→δ→ε→LL} {Hx:α→β→γ→δ→ε→List Res} {p:α→β→γ→δ→ε→Prop} {μ:α→β→γ→δ→ε→Nat} {x:α} {y:β} {z:γ} {t:δ} {u:ε} (x':α) (y':β) (z':γ) (t':δ) (u':ε) (hp:p x' y' z' t' u') (hμ:μ x' y' z' t' u'<μ x y z t u)
  (hI:Ix x' y' z' t' u'=I) (hL:Sub (Lx x' y' z' t' u') L) (hH:Hx x' y' z' t' u'=H):SX n E I L H (c5d n E Ix Lx Hx p μ x y z t u):=
 fun a w s m=>⟨x',y',z',t',u',hp,hμ,s.sub hL,by rw[hI,hH];exact m⟩
end
section
variable {P:Program} {n:Sz} {E:Ent} {I:IMap} {L:LL} {Q:Exit→Act→World→Prop} {ops:Array Oper} {K:Act→World→Prop} {d ty:Nat} {pos:String} {af:Array Edge}
variable {α:Type} {l:Nat} {rd:IMap→List Value→α→Prop} {ok:List α→α→Prop} {J:Bool→List α→IMap→List Res→Prop} {Hc:List Res} {fo:Operand} {as_:List Operand} {ats:Array TypeId} {vs:List Value} {pre:List α} {r1 r2 r3 r4 r5:Res}
theorem b6V (x:α) (hy:a6B P l rd ok J) (hJ:J true pre I Hc) (hr:rd I vs x) (hk:ok pre x) (hf:ev L fo=some (.func (.yield l) #[] #[])) (ha:evs L as_=some vs) (hd:Nat.blt d n.sz=true)
  (k:∀b I' Hc',ILe I I'→J b (pre++[x]) I' Hc'→SX n E I' ((d,.bool b)::L) (r1::Hc') K):SX n E I L (r1::Hc) (one P ops Q ⟨some d,.call { callee:=.value fo,args:=as_.toArray,argTypes:=ats },ty,pos,af,none⟩ K):=
 c1b (H:=[r1]) hy hJ hr hk hf ha hd k
theorem b6W (x:α) (hy:a6B P l rd ok J) (hJ:J true pre I Hc) (hr:rd I vs x) (hk:ok pre x) (hf:ev L fo=some (.func (.yield l) #[] #[])) (ha:evs L as_=some vs) (hd:Nat.blt d n.sz=true)
  (k:∀b I' Hc',ILe I I'→J b (pre++[x]) I' Hc'→SX n E I' ((d,.bool b)::L) (r1::r2::Hc') K):SX n E I L (r1::r2::Hc) (one P ops Q ⟨some d,.call { callee:=.value fo,args:=as_.toArray,argTypes:=ats },ty,pos,af,none⟩ K):=
 c1b (H:=[r1,r2]) hy hJ hr hk hf ha hd k
end
section
variable {P:Program} {n:Sz} {E:Ent} {I I':IMap} {L:LL} {H:List Res} {Q:Exit→Act→World→Prop} {ops:Array Oper} {K:Act→World→Prop} {w0:World}
variable {d ty:Nat} {pos:String} {af:Array Edge} {fo:Operand} {as_:List Operand} {ats:Array TypeId} {f:FuncId} {args:List Value} {r:Res} {X:List Nat}
def FnD (P:Program) (f:FuncId) (args:Array Value) (I:IMap) (r:Res) (p:Value→IMap→Prop):Prop:=FnH P f args I [r] fun u I' H'=>p u I'∧H'=[]
theorem c7B {p:Value→IMap→Prop} (hc:FnD P f args.toArray I r p) (h:a1P L fo as_=some (f,args)) (hd:Nat.blt d n.sz=true) (k:∀v I',ILe I I'→p v I'→SX n E I' ((d,v)::L) H K) :
  SX n E I L (r::H) (one P ops Q ⟨some d,.call { callee:=.value fo,args:=as_.toArray,argTypes:=ats },ty,pos,af,none⟩ K):=
 a3M (Hc:=[r]) hc h hd fun v I' H' hI hp=>by obtain⟨h1,rfl⟩:=hp;exact k v I' hI h1
theorem q_d {v:Value} {p:Value→IMap→Prop} (h:p v I):SX n E I L H fun _ w=>a8L E (fun u' I' H'=>p u' I'∧H'=[]) (.returned v) w:=q_i h
theorem c8N {α:Type} {J:Bool→List α→IMap→List Res→Prop} {full part:List α→Prop} {v:Value} (b:Bool) (pre:List α) (hJ:J b pre I H) (hf:if b then full pre else part pre) :
  SX n E I L H fun _ w=>a8L E (fun _ I' H'=>∃b pre,J b pre I' H'∧(if b then full pre else part pre)) (.returned v) w:=a4Y (fun _ m=>m) ⟨b,pre,hJ,hf⟩
end
section
variable {n:Sz} {E:Ent} {I:IMap} {L:LL} {H:List Res} {K:Act→World→Prop} {a b r1 r2 r3 r4 r5 r6 r7 r8 r9:Res}
theorem c8u (h:SX n E I L [a,b,r1] K):SX n E I L (a::b::[r1]) K:=h
theorem c8t (h:SX n E I L (a::r1::H) K):SX n E I L (a::([r1]++H)) K:=h
theorem c8v (h:SX n E I L [a,b,r1,r2,r3] K):SX n E I L (a::b::[r1,r2,r3]) K:=h
theorem c1H (h:SX n E I L (a::r1::r2::r3::H) K):SX n E I L (a::([r1,r2,r3]++H)) K:=h
theorem c1J (h:SX n E I L [a,b,r1,r2,r3,r4,r5] K):SX n E I L (a::b::[r1,r2,r3,r4,r5]) K:=h
theorem c1I (h:SX n E I L (a::r1::r2::r3::r4::r5::H) K):SX n E I L (a::([r1,r2,r3,r4,r5]++H)) K:=h
end
theorem b7B {n:Sz} {E:Ent} {I:IMap} {L:LL} {H:List Res} {K:Act→World→Prop} {v:Value} {t k m:Nat} {xs ys:List Value} (h:xs=ys) (hk:SX n E I L (.row v t k m ys::H) K):SX n E I L (.row v t k m xs::H) K:=h▸hk
section
variable {P:Program} {n:Sz} {E:Ent} {I:IMap} {L:LL} {H:List Res} {d ty tx tyy:Nat} {pos:String} {af:Array Edge} {x y:Operand}
end
end Go.Sx
set_option linter.all false
namespace Go.Sx
open Go
theorem c7g {α:Type} (p:α→Bool) (l:List α) : -1≤a6s p l:=by
  cases h:l.findIdx? p with
  | none => have : a6s p l = -1 := by simp [a6s, h]
            omega
  | some k => have : a6s p l = (k : Int) := by simp [a6s, h]
              omega
theorem c3u {α:Type} {p:α→Bool} {l:List α} {i:Nat} (h:a6s p l=(i:Int)) (hi:i<l.length):p l[i]=true∧∀j x,j<i→l[j]? = some x→p x=false:=by
  cases hf:l.findIdx? p with
  | none => have : a6s p l = -1 := by simp [a6s, hf]
            omega
  |some k=>
    have:a6s p l=(k:Int):=by simp[a6s,hf]
    obtain rfl:k=i:=by omega
    rw[List.findIdx?_eq_some_iff_getElem]at hf
    obtain⟨h1,h2,h3⟩:=hf;exact⟨h2,fun j x hj hx=>by obtain⟨hlt,rfl⟩:=List.getElem?_eq_some_iff.1 hx;simpa using h3 j hj⟩
structure Del (p:Evt→Bool) (l m:List Evt) (i j:Nat):Prop where
 len:m.length=l.length
 le:i≤j
 hj:j≤l.length
 fst:m.take i=(l.take j).filter fun x=>!p x
 rest:m.drop j=l.drop j
theorem Del.start {p:Evt→Bool} {l:List Evt} {i:Nat} (hi:i<l.length) (hp:p l[i]=true) (hn:∀j x,j<i→l[j]? = some x→p x=false):Del p l l i (i+1):=by
 refine⟨rfl,by omega,by omega,?_,rfl⟩;rw[←a0q hi,List.filter_append]
 have h1:(l.take i).filter (fun x=>!p x)=l.take i:=by
  rw[List.filter_eq_self];intro x hx;obtain⟨j,hj,rfl⟩:=List.getElem_of_mem hx
  simp only[List.length_take]at hj
  rw[List.getElem_take,hn j _ (by omega) (List.getElem?_eq_getElem (by omega))]
  rfl
 rw[h1]
 simp[hp]
theorem Del.at_ {p:Evt→Bool} {l m:List Evt} {i j:Nat} (h:Del p l m i j) (hj:j<l.length):m[j]'(by rw[h.len];exact hj)=l[j]:=by
 have h1:(m.drop j)[0]? = (l.drop j)[0]?:=by rw[h.rest]
 rw[List.getElem?_drop,List.getElem?_drop,List.getElem?_eq_getElem (by rw[h.len];simpa using hj),List.getElem?_eq_getElem (by simpa using hj)]at h1
 simpa using h1
theorem Del.skip {p:Evt→Bool} {l m:List Evt} {i j:Nat} (h:Del p l m i j) (hj:j<l.length) (hp:p l[j]=true):Del p l m i (j+1):=by
 refine⟨h.len,by have:=h.le;omega,by omega,?_,?_⟩
 ·rw[h.fst,←a0q hj,List.filter_append];simp[hp]
 ·have:=congrArg (List.drop 1) h.rest;simpa[List.drop_drop]using this
theorem Del.keep {p:Evt→Bool} {l m:List Evt} {i j:Nat} (h:Del p l m i j) (hj:j<l.length) (hp:p l[j]=false):Del p l (m.set i l[j]) (i+1) (j+1):=by
 have hl:=h.len
 have hle:=h.le
 refine⟨by simp[hl],by omega,by omega,?_,?_⟩
 ·rw[List.take_succ_eq_append_getElem (by simp;omega),List.take_set_of_le (Nat.le_refl _),h.fst,←a0q hj,List.filter_append]
  simp[hp]
 ·rw[List.drop_set_of_lt (by omega)]
  have:=congrArg (List.drop 1) h.rest;simpa[List.drop_drop]using this
def a3s (c:List Kind):List Part→List Evt→List b2L
 |_,[]=>[]
 |s,e::r=>a0p c s e::(if (a0p c s e).2=0 then a3s c (a0p c s e).1 r else [])
abbrev b9c:=List Part×Int×Int
def b2z (c:List Kind):List Part→Int→List Evt→b9c
 |s,_,[]=>(s,-1,0)
 |s,i,e::r=>if (a0p c s e).2=0 then b2z c (a0p c s e).1 (i+1) r else ([],i,(a0p c s e).2)
def d0A (c:List Kind) (l:List Evt):b9c:=if a0Y c=false then ([],-1,1) else b2z c [] 0 (a1m l)
def a9o (c:List Kind) (l:List Evt) (day:Int):b9c:=d0A c (l.filter fun e=>!decide (e.day>day))
structure StAt (c:List Kind) (l:List Evt) (i:Nat) (st:List Part):Prop where
 le:i≤(a3s c [] l).length
 rest:(a3s c [] l).drop i=a3s c st (l.drop i)
theorem StAt.zero (c:List Kind) (l:List Evt):StAt c l 0 []:=⟨Nat.zero_le _,rfl⟩
theorem StAt.step {c:List Kind} {l:List Evt} {i:Nat} {st:List Part} (h:StAt c l i st) (hi:i<l.length) :
  (a3s c [] l).take i++[a0p c st l[i]]=(a3s c [] l).take (i+1)∧i<(a3s c [] l).length∧((a0p c st l[i]).2=0→StAt c l (i+1) (a0p c st l[i]).1)∧((a0p c st l[i]).2≠0→(a3s c [] l).take (i+1)=a3s c [] l):=by
 have h1:=h.rest
 rw[List.drop_eq_getElem_cons hi]at h1
 simp only[a3s]at h1
 have hlt:i<(a3s c [] l).length:=by
  rcases Nat.lt_or_ge i (a3s c [] l).length with h2|h2
  ·exact h2
  ·rw[List.drop_eq_nil_of_le h2]at h1;cases h1
 rw[List.drop_eq_getElem_cons hlt]at h1
 simp only[List.cons.injEq]at h1
 refine⟨?_,hlt,fun h0=>⟨hlt,?_⟩,fun h0=>?_⟩
 ·rw[←h1.1,a0q hlt]
 ·rw[h1.2,if_pos h0]
 ·refine List.take_of_length_le ?_
  have h2:=h1.2
  rw[if_neg h0]at h2
  simpa using h2
theorem StAt.last {c:List Kind} {l:List Evt} {i:Nat} {st:List Part} (h:StAt c l i st) (hi:l.length≤i):(a3s c [] l).take i=a3s c [] l:=by
 have h1:=h.rest
 rw[List.drop_eq_nil_of_le hi]at h1
 exact List.take_of_length_le (by simpa[a3s]using h1)
theorem SmF.nil:SmF []:=fun _ h=>by cases h
theorem b2q {α:Type} {nm:α→ByteArray} {l:List α} {x y:α} (h:y∈a4i nm l x):y=x∨y∈l:=by
 unfold a4i at h
 split at h
 ·rcases List.mem_or_eq_of_mem_set h with h|h
  ·exact .inr h
  ·exact .inl h
 ·rcases List.mem_append.1 h with h|h
  ·exact .inr (List.mem_of_mem_take h)
  ·rcases List.mem_cons.1 h with h|h
   ·exact .inl h
   ·exact .inr (List.mem_of_mem_drop h)
theorem b2s {l:List Part} {p:Part} (h:SmF l) (hp:SmP p):SmF (b2r l p).1:=fun q hq=>by
 rcases b2q (show q∈a4i Part.name l p from hq) with rfl|hq
 ·exact hp
 ·exact h q hq
theorem b2N {c:List Kind} {l:List Part} {e:Evt} (h:SmF l) (he:SmE e):SmF (a0p c l e).1:=by
 have hz:SmP zPart:=⟨(by show (0:Nat)≤_;omega),fun q hq=>by simp[zPart]at hq⟩
 have hp:SmP (a1I l e):=by
  unfold a1I
  cases hf:a0O l e.part with
  |none=>exact hz
  |some p=>exact h p (b1X hf)
 have hn:SmP (a4g e (a1I l e)):=⟨hp.1,fun q hq=>by
  rcases b2q (show q∈a4i Prp.key (a1I l e).props ⟨e.key,e.value⟩ from hq) with rfl|hq
  ·exact he.2.2.2.2.1
  ·exact hp.2 q hq⟩
 have hnew:SmP (c3M e):=⟨he.1,fun q hq=>by simp[c3M]at hq⟩
 have hfail:∀k,SmF (a5C k).1:=fun k=>SmF.nil
 unfold a0p
 split
 ·exact hfail 1
 ·split
  ·unfold a2P
   repeat' split
   all_goals first
    |exact hfail _
    |exact b2s h hnew
  ·unfold a0G
   split
   ·exact hfail _
   ·split
    ·exact hfail _
    ·unfold a1C a1B a0K a1y a1f a0T
     repeat' split
     all_goals first
      |exact hfail _
      |exact b2s h hp
      |exact b2s h hn
      |exact b2s h ⟨hp.1,hp.2⟩
end Go.Sx
set_option linter.all false
namespace Go.Sx
open Go
section
variable {α:Type} {nm:α→ByteArray}
def Inc (nm:α→ByteArray) (l:List α):Prop:=l.Pairwise fun x y=>sLt (nm x) (nm y)=true
theorem c5u {l:List α} (h:Srt nm l):Inc nm l:=by
 rw[Inc,List.pairwise_iff_getElem];exact fun i j hi hj hij=>h i j hj hij
structure Cut (nm:α→ByteArray) (s:ByteArray) (a b:List α):Prop where
 lo:∀y∈a,sLt (nm y) s=true
 hi:∀y∈b,sLt s (nm y)=true
theorem b6e (l:List α) (s:ByteArray) (h:Inc nm l):(∃a b,l=a++b∧Cut nm s a b)∨∃a y b,l=a++y::b∧nm y=s∧Cut nm s a b:=by
 induction l with
 |nil=>exact .inl ⟨[],[],rfl,fun _ h=>(by cases h),fun _ h=>(by cases h)⟩
 |cons x r ih=>
  have h':=List.pairwise_cons.1 h
  cases hx:sLt (nm x) s with
  |true=>
   rcases ih h'.2 with ⟨a,b,rfl,hc⟩|⟨a,y,b,rfl,hy,hc⟩
   ·exact .inl ⟨x::a,b,rfl,fun y hy=>by rcases List.mem_cons.1 hy with rfl|hy;exact hx;exact hc.lo y hy,hc.hi⟩
   ·exact .inr ⟨x::a,y,b,rfl,hy,fun y hy=>by rcases List.mem_cons.1 hy with rfl|hy;exact hx;exact hc.lo y hy,hc.hi⟩
  |false=>
   by_cases he:nm x=s
   ·subst he;exact .inr ⟨[],x,r,rfl,rfl,fun _ h=>(by cases h),fun y hy=>h'.1 y hy⟩
   ·have hs:sLt s (nm x)=true:=by
     cases hs:sLt s (nm x) with
     |true=>rfl
     |false=>exact absurd (c8g hx hs) he
    exact .inl ⟨[],x::r,rfl,fun _ h=>(by cases h),fun y hy=>by
     rcases List.mem_cons.1 hy with rfl|hy
     ·exact hs
     ·exact a4K hs (h'.1 y hy)⟩
theorem c1l {a b:List α} {s:ByteArray} (hc:Cut nm s a b):a5L nm (a++b) s=a.length:=by
 refine b7c (by simp) (fun q x hq hx=>?_) fun q x hq hx=>?_
 ·rw[List.getElem?_append_left hq]at hx
  exact hc.lo x (List.mem_of_getElem? hx)
 ·rw[List.getElem?_append_right hq]at hx
  exact b4e (hc.hi x (List.mem_of_getElem? hx))
theorem b7b {a b:List α} {y:α} {s:ByteArray} (hc:Cut nm s a b) (hy:nm y=s):a5L nm (a++y::b) s=a.length:=by
 refine b7c (by simp) (fun q x hq hx=>?_) fun q x hq hx=>?_
 ·rw[List.getElem?_append_left hq]at hx
  exact hc.lo x (List.mem_of_getElem? hx)
 ·rw[List.getElem?_append_right hq]at hx
  rcases List.mem_cons.1 (List.mem_of_getElem? hx) with rfl|hx
  ·rw[hy];exact a1U s
  ·exact b4e (hc.hi x hx)
theorem b9k {a b:List α} {s:ByteArray} (hc:Cut nm s a b):atF nm (a++b) s=false:=by
 unfold atF;rw[c1l hc]
 cases b with
 |nil=>simp
 |cons y r=>
  rw[List.getElem?_append_right (Nat.le_refl _),Nat.sub_self]
  simp only[List.getElem?_cons_zero,decide_eq_false_iff_not]
  rintro rfl
  have:=hc.hi y (by simp)
  rw[a1U]at this;cases this
theorem b4z {a b:List α} {y:α} {s:ByteArray} (hc:Cut nm s a b) (hy:nm y=s):atF nm (a++y::b) s=true:=by
 unfold atF;rw[b7b hc hy,List.getElem?_append_right (Nat.le_refl _),Nat.sub_self]
 simp[hy]
theorem b5u {a b:List α} {x:α} (hc:Cut nm (nm x) a b):a4i nm (a++b) x=a++x::b:=by
 unfold a4i;rw[b9k hc,c1l hc,if_neg (by decide)]
 simp
theorem b2t {a b:List α} {x y:α} (hc:Cut nm (nm x) a b) (hy:nm y=nm x):a4i nm (a++y::b) x=a++x::b:=by
 unfold a4i;rw[b4z hc hy,b7b hc hy,if_pos rfl]
 simp
theorem c0v {a b:List α} {x:α} (ha:Inc nm a) (hb:Inc nm b) (hc:Cut nm (nm x) a b):Inc nm (a++x::b):=by
 rw[Inc,List.pairwise_append,List.pairwise_cons]
 exact⟨ha,⟨hc.hi,hb⟩,fun y hy z hz=>by
  rcases List.mem_cons.1 hz with rfl|hz
  ·exact hc.lo y hy
  ·exact a4K (hc.lo y hy) (hc.hi z hz)⟩
theorem a4j {l:List α} (x:α) (h:Inc nm l):Inc nm (a4i nm l x):=by
 rcases b6e l (nm x) h with ⟨a,b,rfl,hc⟩|⟨a,y,b,rfl,hy,hc⟩
 ·rw[b5u hc];rw[Inc,List.pairwise_append]at h
  exact c0v h.1 h.2.1 hc
 ·rw[b2t hc hy];rw[Inc,List.pairwise_append,List.pairwise_cons]at h
  exact c0v h.1 h.2.1.2 hc
theorem b3a {a b:List α} {s:ByteArray} (hc:Cut nm s a b) {y:α} (hy:y∈a∨y∈b):nm y≠s:=by
 rintro rfl
 rcases hy with hy|hy
 ·have:=hc.lo y hy;rw[a1U]at this;cases this
 ·have:=hc.hi y hy;rw[a1U]at this;cases this
theorem a3e {l:List α} {x z:α} (h:Inc nm l):z∈a4i nm l x↔z=x∨(z∈l∧nm z≠nm x):=by
 rcases b6e l (nm x) h with ⟨a,b,rfl,hc⟩|⟨a,y,b,rfl,hy,hc⟩
 ·rw[b5u hc]
  simp only[List.mem_append,List.mem_cons]
  constructor
  ·rintro (h|h|h)
   ·exact .inr ⟨.inl h,b3a hc (.inl h)⟩
   ·exact .inl h
   ·exact .inr ⟨.inr h,b3a hc (.inr h)⟩
  ·rintro (h|⟨h|h,_⟩)
   ·exact .inr (.inl h)
   ·exact .inl h
   ·exact .inr (.inr h)
 ·rw[b2t hc hy]
  simp only[List.mem_append,List.mem_cons]
  constructor
  ·rintro (h|h|h)
   ·exact .inr ⟨.inl h,b3a hc (.inl h)⟩
   ·exact .inl h
   ·exact .inr ⟨.inr (.inr h),b3a hc (.inr h)⟩
  ·rintro (h|⟨h|h|h,hn⟩)
   ·exact .inr (.inl h)
   ·exact .inl h
   ·subst h;exact absurd hy hn
   ·exact .inr (.inr h)
theorem b1Z {l:List α} (h:Inc nm l) {x y:α} (hx:x∈l) (hy:y∈l) (he:nm x=nm y):x=y:=by
 obtain⟨i,hi,rfl⟩:=List.getElem_of_mem hx;obtain⟨j,hj,rfl⟩:=List.getElem_of_mem hy;rw[Inc,List.pairwise_iff_getElem]at h
 rcases Nat.lt_trichotomy i j with hij|rfl|hij
 ·have:=h i j hi hj hij;rw[he,a1U]at this;cases this
 ·rfl
 ·have:=h j i hj hi hij;rw[he,a1U]at this;cases this
theorem b5b:∀{l m:List α},Inc nm l→Inc nm m→(∀x,x∈l↔x∈m)→l=m
 | [],[],_,_,_=>rfl
 | [],y::m,_,_,h=>by have:=(h y).2 (by simp);cases this
 |x::l,[],_,_,h=>by have:=(h x).1 (by simp);cases this
 |x::l,y::m,h1,h2,h=>by
  have h1':=List.pairwise_cons.1 h1
  have h2':=List.pairwise_cons.1 h2
  have hxy:x=y:=by
   rcases List.mem_cons.1 ((h x).1 (by simp)) with e|hx
   ·exact e
   ·rcases List.mem_cons.1 ((h y).2 (by simp)) with e|hy
    ·exact e.symm
    ·have a:=h2'.1 x hx
     have b:=h1'.1 y hy
     have:=a4K a b
     rw[a1U]at this;cases this
  subst hxy
  congr 1
  refine b5b h1'.2 h2'.2 fun z=>?_
  have hz:=h z
  simp only[List.mem_cons]at hz
  constructor
  ·intro hzl
   rcases hz.1 (.inr hzl) with rfl|hm
   ·have:=h1'.1 z hzl;rw[a1U]at this;cases this
   ·exact hm
  ·intro hzm
   rcases hz.2 (.inr hzm) with rfl|hm
   ·have:=h2'.1 z hzm;rw[a1U]at this;cases this
   ·exact hm
theorem put_comm {l:List α} {x y:α} (h:Inc nm l) (hn:nm x≠nm y):a4i nm (a4i nm l x) y=a4i nm (a4i nm l y) x:=by
 refine b5b (a4j y (a4j x h)) (a4j x (a4j y h)) fun z=>?_
 rw[a3e (a4j x h),a3e h,a3e (a4j y h),a3e h]
 constructor
 ·rintro (rfl|⟨rfl|⟨h1,h2⟩,h3⟩)
  ·exact .inr ⟨.inl rfl,fun e=>hn e.symm⟩
  ·exact .inl rfl
  ·exact .inr ⟨.inr ⟨h1,h3⟩,h2⟩
 ·rintro (rfl|⟨rfl|⟨h1,h2⟩,h3⟩)
  ·exact .inr ⟨.inl rfl,hn⟩
  ·exact .inl rfl
  ·exact .inr ⟨.inr ⟨h1,h3⟩,h2⟩
theorem a9Z {l:List α} {x:α} (h:Inc nm l):(a4i nm l x).length=if atF nm l (nm x)=true then l.length else l.length+1:=by
 rcases b6e l (nm x) h with ⟨a,b,rfl,hc⟩|⟨a,y,b,rfl,hy,hc⟩
 ·rw[b5u hc,b9k hc];simp;omega
 ·rw[b2t hc hy,b4z hc hy];simp
theorem b6m {l:List α} (h:Inc nm l) {x:α} (hx:x∈l):l.find? (fun y=>decide (nm y=nm x))=some x:=by
 cases hf:l.find? fun y=>decide (nm y=nm x) with
 |none=>
  rw[List.find?_eq_none]at hf
  have:=hf x hx
  simp at this
 |some y=>
  have h1:=List.mem_of_find?_eq_some hf
  have h2:=List.find?_some hf
  rw[b1Z h h1 hx (by simpa using h2)]
theorem a1J {l:List α} (h:Inc nm l) {s:ByteArray} {x:α}:l.find? (fun y=>decide (nm y=s))=some x↔x∈l∧nm x=s:=by
 constructor
 ·intro hf;exact⟨List.mem_of_find?_eq_some hf,by simpa using List.find?_some hf⟩
 ·rintro⟨hx,rfl⟩;exact b6m h hx
theorem a9x {l:List α} {s:ByteArray}:l.find? (fun y=>decide (nm y=s))=none↔∀x∈l,nm x≠s:=by
 rw[List.find?_eq_none];simp
theorem b7h {l:List α} {x:α} (h:Inc nm l) (s:ByteArray):(a4i nm l x).find? (fun y=>decide (nm y=s))=if nm x=s then some x else l.find? fun y=>decide (nm y=s):=by
 have h1:=a4j x h
 split
 ·rename_i e;subst e;exact b6m h1 ((a3e h).2 (.inl rfl))
 ·rename_i e
  cases hf:l.find? fun y=>decide (nm y=s) with
  |none=>
   rw[a9x]at hf ⊢
   intro z hz
   rcases (a3e h).1 hz with rfl|⟨hz,_⟩
   ·exact e
   ·exact hf z hz
  |some y=>
   rw[a1J h]at hf
   rw[a1J h1];exact⟨(a3e h).2 (.inr ⟨hf.1,fun e'=>e (e'.symm.trans hf.2)⟩),hf.2⟩
theorem a9p {l:List α} (h:Inc nm l) (s:ByteArray):atF nm l s=(l.find? fun y=>decide (nm y=s)).isSome:=by
 rcases b6e l s h with ⟨a,b,rfl,hc⟩|⟨a,y,b,rfl,hy,hc⟩
 ·rw[b9k hc]
  have:(a++b).find? (fun y=>decide (nm y=s))=none:=a9x.2 fun x hx=>b3a hc (List.mem_append.1 hx)
  rw[this];rfl
 ·rw[b4z hc hy]
  have:(a++y::b).find? (fun y=>decide (nm y=s))=some y:=(a1J h).2 ⟨by simp,hy⟩
  rw[this];rfl
theorem c4h {l:List α} {x:α} (h:Inc nm l) (hx:x∈l):a4i nm l x=l:=
 b5b (a4j x h) h fun z=>by
  rw[a3e h]
  constructor
  ·rintro (rfl|⟨h1,_⟩)
   ·exact hx
   ·exact h1
  ·intro hz
   by_cases e:nm z=nm x
   ·exact .inl (b1Z h hz hx e)
   ·exact .inr ⟨hz,e⟩
end
end Go.Sx
set_option linter.all false
namespace Go.Sx
open Go
theorem c6N {l:List Evt} {n:Int} (h:c3d l n=true):(∀e∈l,SmE e)∧((l.length:Nat):Int)≤n:=by
 simp only[c3d,Bool.and_eq_true,decide_eq_true_eq]at h
 refine⟨fun e he=>?_,h.2⟩;obtain⟨_,h1⟩:=a4S h.1 he
 simp only[a6d,Bool.and_eq_true,decide_eq_true_eq]at h1
 refine⟨?_,?_,?_,?_,?_,?_⟩<;>unfold Sm<;>omega
theorem b9X {c:List Kind} (h:c3c c=true):SmC c:=by
 simp only[c3c,Bool.and_eq_true,Bool.not_eq_true',decide_eq_false_iff_not]at h
 intro k hk;obtain⟨_,h1⟩:=a4S h.2 hk
 simp only[a3K,Bool.and_eq_true,Bool.not_eq_true',Bool.or_eq_false_iff,decide_eq_false_iff_not]at h1
 refine⟨by unfold Sm;omega,fun s hs=>?_⟩;obtain⟨_,h2⟩:=a4S h1.2 hs
 simp only[a5c,Bool.and_eq_true,Bool.not_eq_true',Bool.or_eq_false_iff,decide_eq_false_iff_not]at h2
 refine⟨by unfold Sm;omega,fun q hq=>?_⟩;obtain⟨_,h3⟩:=a4S h2.2 hq
 simp only[Bool.not_eq_true',decide_eq_false_iff_not]at h3
 unfold Sm;omega
def c0R:ByteArray:=⟨#[99,111,97,99,104]⟩
def nV1:ByteArray:=⟨#[118,49]⟩
end Go.Sx
set_option linter.all false
namespace Go.Sx
open Go
section
variable {α:Type} [Day α]
theorem c4G {l m:List α} (hs:b4w m) (h:∀d:Int,m.filter (fun e=>decide (Day.day e=d))=l.filter (fun e=>decide (Day.day e=d))):a1m l=m:=
 c1B _ _ (a4M l) hs fun d=>by rw[a3w,h]
theorem b8O (l:List α) (p:α→Bool) (h:∀x∈l,∀y∈l,p x=true→p y=false→Day.day x≤Day.day y) (hd:∀x∈l,∀y∈l,Day.day x=Day.day y→p x=p y) :
  a1m l=a1m (l.filter p)++a1m (l.filter fun x=>!p x):=by
 refine c4G ?_ fun d=>?_
 ·rw[b4w,List.pairwise_append];refine⟨a4M _,a4M _,fun x hx y hy=>?_⟩;rw[a5w,List.mem_filter]at hx hy
  exact h x hx.1 y hy.1 hx.2 (by simpa using hy.2)
 ·rw[List.filter_append,a3w,a3w,List.filter_filter,List.filter_filter]
  by_cases hp:∃x∈l,Day.day x=d∧p x=true
  ·obtain⟨x,hx,hxd,hxp⟩:=hp
   have e1:l.filter (fun a=>decide (Day.day a=d)&&p a)=l.filter fun a=>decide (Day.day a=d):=by
    apply List.filter_congr
    intro y hy
    by_cases hyd:Day.day y=d
    ·simp[hyd,←hd x hx y hy (by omega),hxp]
    ·simp[hyd]
   have e2:l.filter (fun a=>decide (Day.day a=d) && !p a)=[]:=by
    rw[List.filter_eq_nil_iff];intro y hy
    by_cases hyd:Day.day y=d
    ·simp[←hd x hx y hy (by omega),hxp]
    ·simp[hyd]
   rw[e1,e2,List.append_nil]
  ·have e1:l.filter (fun a=>decide (Day.day a=d)&&p a)=[]:=by
    rw[List.filter_eq_nil_iff];intro y hy hc
    simp only[Bool.and_eq_true,decide_eq_true_eq]at hc
    exact hp ⟨y,hy,hc.1,hc.2⟩
   have e2:l.filter (fun a=>decide (Day.day a=d) && !p a)=l.filter fun a=>decide (Day.day a=d):=by
    apply List.filter_congr
    intro y hy
    by_cases hyd:Day.day y=d
    ·have:p y=false:=by
      cases h:p y
      ·rfl
      ·exact absurd ⟨y,hy,hyd,h⟩ hp
     simp[hyd,this]
    ·simp[hyd]
   rw[e1,e2,List.nil_append]
def Beg (s:List α) (a:Nat):Prop:=∀j x y,j<a→s[j]? = some x→s[a]? = some y→Day.day x<Day.day y
theorem Beg.zero (s:List α):Beg s 0:=fun j x y h=>absurd h (Nat.not_lt_zero j)
end
theorem c8d {c:List Kind} (hc:a0Y c=true) (l:List Evt):d0A c l=b2z c [] 0 (a1m l):=by unfold d0A;rw[if_neg (by simp[hc])]
def upD (l:List Evt) (day:Int):List Evt:=l.filter fun e=>!decide (e.day>day)
def laD (l:List Evt) (day:Int):List Evt:=l.filter fun e=>decide (e.day>day)
theorem c4I (l:List Evt) (day:Int):a1m l=a1m (upD l day)++a1m (laD l day):=by
 have h:=b8O l (fun e=>!decide (e.day>day)) (fun x _ y _ hx hy=>by
  simp only[Bool.not_eq_true',decide_eq_false_iff_not,Bool.not_eq_false',decide_eq_true_eq]at hx hy
  show x.day≤y.day;omega) (fun x _ y _ h=>by
  have:x.day=y.day:=h
  simp only[this])
 rw[h,upD,laD]
 congr 2
 apply List.filter_congr
 intro x _
 simp
theorem d1l (c:List Kind) (l:List Evt) (day:Int):a9o c l day=d0A c (upD l day):=rfl
theorem a7s (s:ByteArray):a2v s=a3L s:=by
  rw[Bool.eq_iff_iff]
  simp only[a2v,a3L,Bool.and_eq_true,Bool.not_eq_true',decide_eq_false_iff_not,decide_eq_true_eq,a7R,a8q,List.all_eq_true,List.mem_range,a3n,a7q,Bool.or_eq_true]
  have he:s=⟨#[]⟩↔s.size=0:=by
    constructor
    · rintro rfl;rfl
    · intro h
      cases s with|mk d=>congr 1;exact Array.eq_empty_of_size_eq_zero h
  constructor
  · rintro⟨h1,h2,h3⟩
    have hp : 0 < s.size := by rcases Nat.eq_zero_or_pos s.size with h | h; · exact absurd (he.2 h) h2
                               · exact h
    refine⟨fun i hi=>?_,⟨by omega,h3⟩,?_⟩
    · rcases h1 i hi with h|⟨_,h|h⟩
      · exact .inl (.inl h)
      · exact .inl (.inr h)
      · exact .inr h
    · rcases h1 0 hp with h|⟨h,_⟩
      · exact h
      · exact absurd rfl h
  · rintro⟨h1,⟨h2,h3⟩,h4⟩
    refine⟨fun i hi=>?_,fun h=>by have:=he.1 h;omega,h3⟩
    by_cases h0:i=0
    · subst h0;exact .inl h4
    · rcases h1 i hi with (h|h)|h
      · exact .inl h
      · exact .inr ⟨h0,.inl h⟩
      · exact .inr ⟨h0,.inr h⟩
end Go.Sx
set_option linter.all false
namespace Go.Sx
open Go
def c2p (i:Ivl):Bool:=(decide (0≤i.low)&&decide (i.low≤i.high))&&decide (i.high≤1000000)
theorem c7k (i:Ivl):c2p i=b0A i:=by
 unfold c2p b0A;rw[Bool.eq_iff_iff];simp
def c5J (u:Use):Bool:=(c2p u.km&&c2p u.cycles)&&c2p u.load
theorem c1S (u:Use):c5J u=b0F u 3:=by
 simp only[c5J,b0F,c7k]
 simp[List.range_succ,b4k,Bool.and_assoc]
def b7R (e:Evt):Evt:=⟨e.op,e.day,e.part,a1g,a1g,a1g,a1g,a1g,d1g⟩
def a7r (e:Evt):Evt:=
 if e.op=1 then { b7R e with kind:=e.kind } else if e.op=2 then { b7R e with into:=e.into,slot:=e.slot } else if e.op=4 then { b7R e with use:=e.use } else if e.op=6 then { b7R e with key:=e.key,value:=e.value } else b7R e
def a7W (e:Evt):Bool:=
 if e.op=1 then a3L e.kind else if e.op=2 then (a3L e.into&&a3L e.slot) && !decide (e.into=e.part) else if e.op=4 then c5J e.use else if e.op=6 then (a3L e.key&&decide ((1:Int)≤(e.value.size:Nat)))&&decide (((e.value.size:Nat):Int)≤200) else true
def a7d (e:Evt):Bool:=(((decide (e.op<1)||decide (7<e.op))||decide (e.day<0))||decide (40000<e.day)) || !a3L e.part
def b0k (e:Evt):Bool:=!a7d e&&(a7W e&&decide (a7r e=e))
theorem c4D {s:ByteArray}:s=a1g↔s.size=0:=by
 constructor
 ·rintro rfl;rfl
 ·intro h
  cases s with|mk d=>congr 1;exact Array.eq_empty_of_size_eq_zero h
theorem d0a (s:ByteArray):decide ((1:Int)≤(s.size:Nat)) = !decide (s=a1g):=by
 rw[←decide_not,decide_eq_decide,c4D];omega
theorem c9O (a b:Int):decide (a≤b) = !decide (b<a):=by
 rw[←decide_not,decide_eq_decide];omega
theorem b9Q (e:Evt):a7d e=a8E e:=by
 unfold a7d a8E;rw[a7s]
 congr 3
 rw[Bool.eq_iff_iff,Bool.or_eq_true,decide_eq_true_eq,decide_eq_true_eq,decide_eq_true_eq,a8C]
 omega
theorem c0z (e:Evt):decide (a7r e=e)=decide (a6b e=d0W):=by
 rw[decide_eq_decide];unfold a7r a6b b7R d0W;obtain⟨op,day,part,kind,into,slot,key,value,use⟩:=e
 by_cases h1:op=1
 ·subst h1;simp[eq_comm]
 by_cases h2:op=2
 ·subst h2;simp[eq_comm]
 by_cases h4:op=4
 ·subst h4;simp[eq_comm]
 by_cases h6:op=6
 ·subst h6;simp[eq_comm]
 ·simp[h1,h2,h4,h6,eq_comm]
theorem c7b (e:Evt):a7W e=(!a5O e && !((a2a e).any fun s=>!a2v s)):=by
 unfold a7W a5O a2a
 by_cases h1:e.op=1
 ·simp[h1,a7s]
 by_cases h2:e.op=2
 ·simp[h2,a7s,Bool.and_comm]
 by_cases h4:e.op=4
 ·simp[h4,c1S]
 by_cases h6:e.op=6
 ·rw[if_neg h1,if_neg h2,if_neg h4,if_pos h6,if_neg h2,if_pos h6,if_neg h1,if_neg h2,if_pos h6,d0a,c9O]
  simp only[List.any_cons,List.any_nil,a7s]
  cases a3L e.key<;>cases decide (e.value=a1g)<;>cases decide ((200:Int)<(e.value.size:Nat))<;>rfl
 ·simp[h1,h2,h4,h6]
theorem a8o (e:Evt):b0k e=a1H e:=by
 unfold b0k a1H;rw[b9Q,c7b,c0z]
 cases a8E e<;>cases a5O e<;>cases decide (a6b e=d0W)<;>cases (a2a e).any fun s=>!a2v s<;>rfl
section
variable {α:Type} (nm:α→ByteArray) (x:α)
variable {nm x}
end
section
variable {α:Type} {nm:α→ByteArray} {x:α} {l:List α} {i:Nat} {out:List α} {b:Bool}
end
end Go.Sx
set_option linter.all false
namespace Go.Sx
open Go
def upP (st:List Part) (n:ByteArray):ByteArray:=((a0O st n).getD zPart).into
def a5t (st:List Part) (v:ByteArray):Nat→ByteArray→Bool
 |0,_=>false
 |k+1,n=>!decide (upP st n=a1g)&&(decide (upP st n=v)||a5t st v k (upP st n))
def b1D (st:List Part) (v n:ByteArray):Prop:=((a0O st v).isSome=true∧(a0O st n).isSome=true∧n≠v)∧∃k,a5t st v k n=true
def a9k (d:Ivl) (u:Use) (p:Part):Part:={ p with life:=⟨c2t p.life.km u.km,c2t p.life.cycles u.cycles,c2t p.life.damage d⟩ }
open Classical in
noncomputable def useL (st:List Part) (e:Evt) (d:Ivl):List Part:=st.map fun p=>if p.name=e.part∨b1D st e.part p.name then a9k d e.use p else p
noncomputable def applyL (f:Fm) (c:List Kind) (st:List Part) (e:Evt):b2L:=
 if (a0p c st e).2=0∧e.op=4 then (useL (a0p c st e).1 e (b0p f e.use),0) else a0p c st e
noncomputable def runLGo (f:Fm) (c:List Kind):List Part→Int→List Evt→b9c
 |s,_,[]=>(s,-1,0)
 |s,i,e::r=>if (applyL f c s e).2=0 then runLGo f c (applyL f c s e).1 (i+1) r else ([],i,(applyL f c s e).2)
noncomputable def runL (f:Fm) (c:List Kind) (l:List Evt) (day:Int):b9c:=
 if (!a0Y c || !a1G f)=true then ([],-1,1) else runLGo f c [] 0 (a1m (l.filter fun e=>!decide (e.day>day)))
def a1K (p:Part):Part:={ p with life:=zLife }
def c5P (p:Part):Prop:=(a3v p.life.km=true∧a3v p.life.cycles=true)∧a3v p.life.damage=true
def LfInv (st:List Part):Prop:=∀p∈st,c5P p
section
variable {c:List Kind} {f:Fm} {st:List Part} {p:Part} {e:Evt} {d:Ivl}
theorem a5l (n:ByteArray):a0O (st.map a1K) n=(a0O st n).map a1K:=by
 unfold a0O;rw[List.find?_map];rfl
theorem b1K (n:ByteArray):(a0O (st.map a1K) n).getD zPart=a1K ((a0O st n).getD zPart):=by
 rw[a5l];cases a0O st n<;>rfl
theorem b7Q (h:c5P p):a4n c (a1K p)=a4n c p:=by
 unfold a4n;rw[h.1.1,h.1.2,h.2];rfl
theorem b4A (pre:List Part):(a2V (pre.map a1K)).map a2C=(a2V pre).map a2C:=by
 unfold a2V
 induction pre with
 |nil=>rfl
 |cons x pre ih=>
  simp only[List.map_cons,List.filter_cons]
  by_cases hx:x.into=a1g
  ·have hx2:(a1K x).into=a1g:=hx
   simp only[hx,hx2,decide_true,Bool.not_true,Bool.false_eq_true,if_false];exact ih
  ·have hx2:¬(a1K x).into=a1g:=hx
   simp only[hx,hx2,decide_false,Bool.not_false,if_true,List.map_cons]
   rw[ih];rfl
theorem b5O {α β:Type} (F:List β→β→Bool) (g:α→β) (l:List α) (n:Nat):a3A F (l.map g) n=a3A (fun pre x=>F (pre.map g) (g x)) l n:=by
 unfold a3A
 congr 1
 funext i
 rw[List.getElem?_map,←List.map_take]
 cases l[i]? <;> rfl
theorem b0H {α:Type} {F G:List α→α→Bool} {l:List α} (h:∀pre,∀x∈l,F pre x=G pre x) (n:Nat):a3A F l n=a3A G l n:=by
 have e:∀i:Nat,(match l[i]? with|some x=>F (l.take i) x|none=>true)=(match l[i]? with|some x=>G (l.take i) x|none=>true):=fun i=>by
  cases hq:l[i]? with
  |none=>rfl
  |some x=>exact h _ x (List.mem_of_getElem? hq)
 unfold a3A
 congr 1
 funext i
 exact e i
theorem c7I {α β:Type} (nm:β→ByteArray) (g:α→β) (l:List α):b6Y nm (l.map g)=b6Y (fun x=>nm (g x)) l:=by
 unfold b6Y;rw[List.length_map,b5O];refine b0H (fun pre x _=>?_) _;unfold a8K;rw[List.getLast?_map]
 cases pre.getLast? <;> rfl
theorem c0r {α κ:Type} [DecidableEq κ] (nm:α→κ) (l:List α) (s:κ):hit nm l s=decide (s∈l.map nm):=by
 unfold hit;rw[Bool.eq_iff_iff,List.find?_isSome]
 simp only[decide_eq_true_eq,List.mem_map]
theorem b9m (pre:List Part):a7P c (st.map a1K) (pre.map a1K) (a1K p)=a7P c st pre p:=by
 unfold a7P;rw[show (a1K p).into=p.into from rfl,b1K,a5l,Option.isSome_map,c0r,c0r,b4A];rfl
theorem b9n (pre:List Part) (h:c5P p):a2J c (st.map a1K) (pre.map a1K) (a1K p)=a2J c st pre p:=by
 unfold a2J b2R;rw[b9m,b7Q h];rfl
theorem a7Q (h:LfInv st):a3x c (st.map a1K)=a3x c st:=by
 unfold a3x b2P;rw[List.length_map,c7I,b5O,b0H fun pre x hx=>b9n pre (h x hx)];rfl
theorem b5S (s:ByteArray):a5L Part.name (st.map a1K) s=a5L Part.name st s:=by
 unfold a5L;rw[List.findIdx_map];rfl
theorem c2y (q:Part):a4i Part.name (st.map a1K) (a1K q)=(a4i Part.name st q).map a1K:=by
 have e:atF Part.name (st.map a1K) (a1K q).name=atF Part.name st q.name:=by
  unfold atF;rw[show (a1K q).name=q.name from rfl,b5S,List.getElem?_map]
  cases st[a5L Part.name st q.name]? <;> rfl
 unfold a4i;rw[e,show (a1K q).name=q.name from rfl,b5S]
 split
 ·rw[List.map_set]
 ·rw[List.map_append,List.map_cons,List.map_take,List.map_drop]
def b7O (r:b2L):b2L:=(r.1.map a1K,r.2)
theorem a3U (q:Part):b2r (st.map a1K) (a1K q)=b7O (b2r st q):=by unfold b2r b7O;rw[c2y]
theorem b5R {g:Part→Bool} (hg:∀x,g (a1K x)=g x):(st.map a1K).any g=st.any g:=by
 rw[List.any_map];congr 1;funext x;exact hg x
theorem b7P (h:LfInv st) (e:Evt):a0p c (st.map a1K) e=b7O (a0p c st e):=by
 have e1:a1I (st.map a1K) e=a1K (a1I st e):=b1K _
 have e2:a2I (st.map a1K) e=a1K (a2I st e):=by
  unfold a2I a2p
  split<;>exact b1K _
 have e3:a3D c (st.map a1K) e=a3D c st e:=by unfold a3D;rw[e1];rfl
 have e4:(a2p (st.map a1K) e).isSome=(a2p st e).isSome:=by
  unfold a2p
  split<;>rw[a5l,Option.isSome_map]
 have fl:∀n,a5C n=b7O (a5C n):=fun n=>rfl
 have e5:a0X (st.map a1K) e=a0X st e:=b5R fun x=>rfl
 have e6:∀s,a1p (st.map a1K) s=a1p st s:=fun s=>b5R fun x=>rfl
 unfold a0p;rw[a7Q h]
 split
 ·exact fl _
 split
 ·unfold a2P;rw[a5l,Option.isSome_map,List.length_map]
  split
  ·exact fl _
  split
  ·exact fl _
  split
  ·exact fl _
  ·exact a3U (c3M e)
 ·unfold a0G;rw[a5l,Option.isSome_map,e4,e1,e2,e3]
  split
  ·exact fl _
  rw[show (a1K (a1I st e)).scrapped=(a1I st e).scrapped from rfl,show (a1K (a2I st e)).scrapped=(a2I st e).scrapped from rfl]
  split
  ·exact fl _
  ·unfold a1C
   split
   ·unfold a1B;rw[e5];rw[show (a1K (a2I st e)).kind=(a2I st e).kind from rfl,show (a1K (a1I st e)).kind=(a1I st e).kind from rfl,show (a1K (a1I st e)).into=(a1I st e).into from rfl]
    split
    ·exact fl _
    split
    ·exact fl _
    split
    ·exact fl _
    ·exact a3U { a1I st e with into:=e.into,slot:=e.slot }
   split
   ·unfold a0K;rw[show (a1K (a1I st e)).into=(a1I st e).into from rfl]
    split
    ·exact fl _
    ·exact a3U { a1I st e with into:=a1g,slot:=a1g }
   split
   ·unfold a1y
    split
    ·exact fl _
    ·exact a3U (a1I st e)
   split
   ·exact a3U (a2q e (a1I st e))
   split
   ·unfold a1f;rw[show (a4g e (a1K (a1I st e))).props=(a4g e (a1I st e)).props from rfl]
    split
    ·exact fl _
    ·exact a3U (a4g e (a1I st e))
   split
   ·unfold a0T;rw[e6,show (a1K (a1I st e)).into=(a1I st e).into from rfl,show (a1K (a1I st e)).name=(a1I st e).name from rfl]
    split
    ·exact fl _
    ·exact a3U { a1I st e with scrapped:=true }
   ·exact a3U (a1I st e)
theorem b2K:(a3v zLife.km=true∧a3v zLife.cycles=true)∧a3v zLife.damage=true:=by decide
theorem b0R {i:Ivl}:a3v i=true↔0≤i.low∧i.low≤i.high∧i.high≤(1000000000000:Int):=by simp[a3v,and_assoc]
theorem b2g {i u:Ivl} (hi:a3v i=true) (hu:a2n u=true) (h0:0≤u.low):a3v (c2t i u)=true:=by
 have h1:=b0R.1 hi
 have h2:=a1e.1 hu
 rw[c5R (a1e.2 (by omega)) hu,b0R];unfold b1r;dsimp only;omega
theorem LfInv.put {q:Part} (h:LfInv st) (hq:c5P q):LfInv (a4i Part.name st q):=fun p hp=>by
 rcases b2q hp with rfl|hp
 ·exact hq
 ·exact h p hp
theorem LfInv.apply (h:LfInv st) (e:Evt):LfInv (a0p c st e).1:=by
 have hn:∀n,LfInv (a5C n).1:=fun n p hp=>by cases hp
 have hz:c5P zPart:=b2K
 have hp:c5P (a1I st e):=by
  unfold a1I
  cases hq:a0O st e.part with
  |none=>exact hz
  |some p=>exact h p (b1X hq)
 have hput:∀q:Part,c5P q→LfInv (b2r st q).1:=fun q hq=>h.put hq
 unfold a0p
 split
 ·exact hn _
 split
 ·unfold a2P
  split
  ·exact hn _
  split
  ·exact hn _
  split
  ·exact hn _
  ·exact hput _ b2K
 ·unfold a0G
  split
  ·exact hn _
  split
  ·exact hn _
  ·unfold a1C
   split
   ·unfold a1B
    split
    ·exact hn _
    split
    ·exact hn _
    split
    ·exact hn _
    ·exact hput _ hp
   split
   ·unfold a0K
    split
    ·exact hn _
    ·exact hput _ hp
   split
   ·unfold a1y
    split
    ·exact hn _
    ·exact hput _ hp
   split
   ·exact hput _ b2K
   split
   ·unfold a1f
    split
    ·exact hn _
    ·exact hput _ hp
   split
   ·unfold a0T
    split
    ·exact hn _
    ·exact hput _ hp
   ·exact hput _ hp
theorem b5T (e:Evt) (d:Ivl):(useL st e d).map a1K=st.map a1K:=by
 unfold useL;rw[List.map_map]
 congr 1
 funext p
 simp only[Function.comp]
 split<;>rfl
theorem LfInv.use (h:LfInv st) (hu:a2n e.use.km=true∧0≤e.use.km.low) (hu2:a2n e.use.cycles=true∧0≤e.use.cycles.low) (hd:a2n d=true∧0≤d.low):LfInv (useL st e d):=fun p hp=>by
 unfold useL at hp
 obtain⟨q,hq,rfl⟩:=List.mem_map.1 hp
 have h1:=h q hq
 split
 ·exact⟨⟨b2g h1.1.1 hu.1 hu.2,b2g h1.1.2 hu2.1 hu2.2⟩,b2g h1.2 hd.1 hd.2⟩
 ·exact h1
theorem b4y (h:(a0p c st e).2=0):a1H e=true:=by
 unfold a0p at h
 split at h
 ·cases h
 ·rename_i h2
  have:a3x c st=true∧a1H e=true:=by simpa using h2
  exact this.2
theorem c1v (h:a1H e=true) (h4:e.op=4):(a2n e.use.km=true∧0≤e.use.km.low)∧(a2n e.use.cycles=true∧0≤e.use.cycles.low)∧b0F e.use 3=true:=by
 have hu:b0F e.use 3=true:=by
  simp only[a1H,Bool.and_eq_true,Bool.not_eq_true']at h
  have h2:=h.1.1.2
  unfold a5O at h2
  rw[if_neg (by omega),if_neg (by omega),if_pos h4]at h2
  simpa using h2
 have hu2:=hu
 rw[←c1S]at hu2
 simp only[c5J,c2p,Bool.and_eq_true,decide_eq_true_eq]at hu2
 exact⟨⟨a1e.2 (by omega),by omega⟩,⟨a1e.2 (by omega),by omega⟩,hu⟩
theorem a3I:(applyL f c st e).2=(a0p c st e).2:=by
 unfold applyL
 split
 ·rename_i h;exact h.1.symm
 ·rfl
theorem LfInv.step (h:LfInv st):LfInv (applyL f c st e).1:=by
 unfold applyL
 split
 ·rename_i hc
  have hu:=c1v (b4y hc.1) hc.2
  exact (h.apply e).use hu.1 hu.2.1 b9L
 ·exact h.apply e
theorem b9p (h:LfInv st):b7O (applyL f c st e)=a0p c (st.map a1K) e:=by
 rw[b7P h];unfold applyL
 split
 ·rename_i hc
  unfold b7O;rw[b5T,hc.1]
 ·rfl
def c8Z (r:b9c):b9c:=(r.1.map a1K,r.2)
theorem b9o:∀(l:List Evt) (st:List Part) (i:Int),LfInv st→c8Z (runLGo f c st i l)=b2z c (st.map a1K) i l
 | [],st,i,h=>rfl
 |e::r,st,i,h=>by
  have h1:=b9p (f:=f) (c:=c) (e:=e) h
  have h2:(a0p c (st.map a1K) e).2=(applyL f c st e).2:=by rw[←h1];rfl
  have h3:(a0p c (st.map a1K) e).1=(applyL f c st e).1.map a1K:=by rw[←h1];rfl
  simp only[runLGo,b2z,h2]
  split
  ·rw[h3];exact b9o r _ _ h.step
  ·rfl
theorem LfInv.nil:LfInv []:=fun p h=>by cases h
theorem a6L (hf:a1G f=true) (l:List Evt) (day:Int):c8Z (runL f c l day)=a9o c l day:=by
 unfold runL a9o d0A;rw[hf]
 cases hc:a0Y c with
 |false=>rfl
 |true=>simpa using b9o (f:=f) (c:=c) (a1m (l.filter fun e=>!decide (e.day>day))) [] 0 LfInv.nil
end
end Go.Sx
set_option linter.all false
namespace Go.Sx
open Go
structure Stp where
 kinds:List Kind
 dam:Fm
instance:Enc Stp where
 k:=4
 rd I vs x:=∃vc sf,vs=[vc,ci x.dam.op,ci x.dam.n,sf]∧RdS I vc x.kinds∧FmRd I [ci x.dam.op,ci x.dam.n,sf] x.dam
 len h:=by obtain⟨_,_,rfl,_⟩:=h;rfl
 mono hI h:=by obtain⟨a,b,rfl,h1,h2⟩:=h;exact⟨a,b,rfl,h1.le hI,h2.le hI⟩
 one h:=by
  obtain⟨a,b,rfl,h1,h2⟩:=h
  have h3:=Enc.one (α:=Fm) h2
  obtain⟨A,c,rfl,_⟩:=h1
  simp at h3 ⊢
  exact⟨rfl,h3⟩
def d1j (x:Stp):Prop:=(∀k∈x.kinds,c8T k)∧OkFm x.dam
section
variable {P:Program} {t:TypeId}
theorem a9T {tc tf:TypeId} (hf:a1n P t=some [(tc,0,1),(tf,1,3)]) (hc:P.cellsOf t=4) (h1:a3i P tc (List Kind) (fun l=>∀k∈l,c8T k)) (h2:a3i P tf Fm OkFm):a3i P t Stp d1j:=by
 intro H enc w base spare held fuel cs x h;obtain⟨hl,hall⟩:=a2X hf h;rw[hc]at hl
 obtain⟨a0,r0_,rfl,l0_⟩:=a0N hl;obtain⟨a1,r1_,rfl,l1_⟩:=a0N l0_;obtain⟨a2,r2_,rfl,l2_⟩:=a0N l1_;obtain⟨a3,r3_,rfl,l3_⟩:=a0N l2_;obtain rfl:=a5X l3_;obtain⟨n0,y0,h0⟩:=hall (tc,0,1) (by simp);obtain⟨x0,⟨v0,e0,r0⟩,g0⟩:=h1 enc w base spare held n0 _ y0 h0
 have e0:[a0]=[v0]:=e0
 cases e0
 obtain⟨n1,y1,h1⟩:=hall (tf,1,3) (by simp);obtain⟨x1,r1,g1⟩:=h2 enc w base spare held n1 _ y1 h1
 have r1:FmRd (Iw w) [a1,a2,a3] x1:=r1
 obtain⟨s,e1,_⟩:=a4V r1
 simp only[List.cons.injEq,and_true]at e1
 obtain⟨rfl,rfl,rfl⟩:=e1;exact⟨⟨x0,x1⟩,⟨_,_,rfl,r0,r1⟩,g0,g1⟩
theorem b1e {ts ti:TypeId} (hf:a1n P t=some [(ti,0,1),(ti,1,1),(ts,2,1)]) (hc:P.cellsOf t=3) (hs:P.underlying ts=some (.slice t)) (hi:P.underlying ti=some (.int .i64)):a3i P t Fm OkFm:=by
 unfold a1n at hf
 split at hf
 ·rename_i fs h1
  exact c3T h1 (Option.some.inj hf) hc hs hi
 ·cases hf
end
end Go.Sx
set_option linter.all false
namespace Go.Sx
open Go
structure HN (n:Nat) (g:Prop):Prop where
 out:g
theorem HN.z {s:Prop} (h:HN 0 s):s:=h.out
theorem HN.p {s:Prop} {n:Nat} (h:HN (n+1) s):HN n s:=⟨h.out⟩
class Has {α:Type} (a:Option α) (b:outParam α):Prop where
 eq:a=some b
theorem he {α:Type} {a:Option α} {b:α} [h:Has a b]:a=some b:=h.eq
theorem sb {L L':LL} (h:Sub L' L:=by repeat (first|exact trivial|refine⟨rfl,?_⟩)):Sub L' L:=h
section
variable {P:Program} {ρ:Option Nat} {n:Sz} {E:Ent} {I I':IMap} {L L':LL} {H H':List Res} {K K':Act→World→Prop} {Q:Exit→Act→World→Prop} {ops:Array Oper}
theorem cb {c:Operand} {x y:Code} {b:Bool} {p q:Prop} (hc:ev L c=some (.bool b)) (ht:b=true→p→SX n E I L H (x.wq ρ P Q)) (hf:b=false→q→SX n E I L H (y.wq ρ P Q))
  (e1:b=true→p:=by first|(intro h;simp only[bO]at h;exact h)|exact fun h=>h) (e2:b=false→q:=by first|(intro h;simp only[bO]at h;exact h)|exact fun h=>h) :
  SX n E I L H ((Code.cond c x y).wq ρ P Q):=c9l hc (fun h=>ht h (e1 h)) (fun h=>hf h (e2 h))
theorem sxb {v:Bool} {p q:Prop} (t:Nat) (h:look L t=some (.bool v)) (h1:v=true→p→SX n E I L H K) (h2:v=false→q→SX n E I L H K)
  (e1:v=true→p:=by first|(intro h;simp only[bO]at h;exact h)|exact fun h=>h) (e2:v=false→q:=by first|(intro h;simp only[bO]at h;exact h)|exact fun h=>h):SX n E I L H K:=c4N t h (fun h=>h1 h (e1 h)) (fun h=>h2 h (e2 h))
variable {d ty:Nat} {pos:String} {af:Array Edge} {x y z:Operand} {tt tx tyy q:Nat} {v:Value}
theorem c7Q (h:OV P n E I L H ⟨some d,.move x,ty,pos,af,none⟩ v):OV P n E I L H ⟨some d,.move x,ty,pos,af,none⟩ v:=h
theorem c1m (h:OV P n E I L H ⟨some d,.assign x,ty,pos,af,none⟩ v):OV P n E I L H ⟨some d,.assign x,ty,pos,af,none⟩ v:=h
theorem b3T (h:OV P n E I L H ⟨some d,.fieldAddr tt x q,ty,pos,af,none⟩ v):OV P n E I L H ⟨some d,.fieldAddr tt x q,ty,pos,af,none⟩ v:=h
theorem c7P (h:OV P n E I L H ⟨some d,.load tt x,ty,pos,af,none⟩ v):OV P n E I L H ⟨some d,.load tt x,ty,pos,af,none⟩ v:=h
theorem c4d (h:OV P n E I L H ⟨some d,.field tt x q,ty,pos,af,none⟩ v):OV P n E I L H ⟨some d,.field tt x q,ty,pos,af,none⟩ v:=h
theorem b8E (h:OV P n E I L H ⟨some d,.extract x q,ty,pos,af,none⟩ v):OV P n E I L H ⟨some d,.extract x q,ty,pos,af,none⟩ v:=h
theorem d0p (h:OV P n E I L H ⟨some d,.unOp .not tt x,ty,pos,af,none⟩ v):OV P n E I L H ⟨some d,.unOp .not tt x,ty,pos,af,none⟩ v:=h
theorem d0o (h:OV P n E I L H ⟨some d,.nilCheck x,ty,pos,af,none⟩ v):OV P n E I L H ⟨some d,.nilCheck x,ty,pos,af,none⟩ v:=h
theorem c7R (h:OV P n E I L H ⟨some d,.pick x y z,ty,pos,af,none⟩ v):OV P n E I L H ⟨some d,.pick x y z,ty,pos,af,none⟩ v:=h
theorem d0m (h:OV P n E I L H ⟨some d,.binOp .lss tx x y tyy,ty,pos,af,none⟩ v):OV P n E I L H ⟨some d,.binOp .lss tx x y tyy,ty,pos,af,none⟩ v:=h
theorem d0l (h:OV P n E I L H ⟨some d,.binOp .leq tx x y tyy,ty,pos,af,none⟩ v):OV P n E I L H ⟨some d,.binOp .leq tx x y tyy,ty,pos,af,none⟩ v:=h
theorem d0j (h:OV P n E I L H ⟨some d,.binOp .gtr tx x y tyy,ty,pos,af,none⟩ v):OV P n E I L H ⟨some d,.binOp .gtr tx x y tyy,ty,pos,af,none⟩ v:=h
theorem d0i (h:OV P n E I L H ⟨some d,.binOp .geq tx x y tyy,ty,pos,af,none⟩ v):OV P n E I L H ⟨some d,.binOp .geq tx x y tyy,ty,pos,af,none⟩ v:=h
theorem d0h (h:OV P n E I L H ⟨some d,.binOp .eql tx x y tyy,ty,pos,af,none⟩ v):OV P n E I L H ⟨some d,.binOp .eql tx x y tyy,ty,pos,af,none⟩ v:=h
theorem d0n (h:OV P n E I L H ⟨some d,.binOp .neq tx x y tyy,ty,pos,af,none⟩ v):OV P n E I L H ⟨some d,.binOp .neq tx x y tyy,ty,pos,af,none⟩ v:=h
theorem d0g (h:OV P n E I L H ⟨some d,.binOp .add tx x y tyy,ty,pos,af,none⟩ v):OV P n E I L H ⟨some d,.binOp .add tx x y tyy,ty,pos,af,none⟩ v:=h
theorem d0q (h:OV P n E I L H ⟨some d,.binOp .sub tx x y tyy,ty,pos,af,none⟩ v):OV P n E I L H ⟨some d,.binOp .sub tx x y tyy,ty,pos,af,none⟩ v:=h
theorem d0k (h:OV P n E I L H ⟨some d,.call { callee:=.builtin .len,args:=#[x],argTypes:=#[tx] },ty,pos,af,none⟩ v):OV P n E I L H ⟨some d,.call { callee:=.builtin .len,args:=#[x],argTypes:=#[tx] },ty,pos,af,none⟩ v:=h
theorem va {o:Oper} (h:OV P n E I L H o v:=by
  first
   |((with_unfolding_none refine' c7Q ?_);rotate_left;exact a0c rfl)
   |((with_unfolding_none refine' c1m ?_);rotate_left;exact a0I rfl)
   |((with_unfolding_none refine' b3T ?_);rotate_left;exact a0d he rfl)
   |((with_unfolding_none refine' c7P ?_);rotate_left;(first|exact a6t m0 he rfl rfl|exact a6t m1 he rfl rfl|exact a6t m2 he rfl rfl|exact a6t m3 he rfl rfl|exact a6t m4 he rfl rfl|exact a6t m5 he rfl rfl|exact a6t m6 he rfl rfl|exact a4d m0 he rfl rfl|exact a4d m1 he rfl rfl|exact a4d m2 he rfl rfl|exact a4d m3 he rfl rfl|exact a4d m4 he rfl rfl|exact a4d m5 he rfl rfl|exact a4d m6 he rfl rfl))
   |((with_unfolding_none refine' c7R ?_);rotate_left;(first|exact a8l rfl rfl|exact b1y rfl rfl|exact a8m rfl rfl rfl|exact b4q rfl rfl rfl|exact a8l (by assumption) rfl|exact b1y (by assumption) rfl|exact a8m (by assumption) rfl rfl|exact b4q (by assumption) rfl rfl))
   |((with_unfolding_none refine' d0m ?_);rotate_left;(first|exact a8n rfl rfl|exact d0Q rfl rfl))
   |((with_unfolding_none refine' d0k ?_);rotate_left;(first|exact a6S he rfl|exact c2b he rfl))
   |((with_unfolding_none refine' b8E ?_);rotate_left;exact a2g rfl rfl)
   |((with_unfolding_none refine' d0p ?_);rotate_left;exact b8V rfl)
   |((with_unfolding_none refine' d0h ?_);rotate_left;(first|exact b4m rfl rfl|exact b4r rfl rfl))
   |((with_unfolding_none refine' d0n ?_);rotate_left;(first|exact a4e rfl rfl|exact c5N rfl rfl))
   |((with_unfolding_none refine' d0l ?_);rotate_left;(first|exact a6T rfl rfl|exact d0P rfl rfl))
   |((with_unfolding_none refine' d0j ?_);rotate_left;(first|exact b8U rfl rfl|exact d0O rfl rfl))
   |((with_unfolding_none refine' d0i ?_);rotate_left;(first|exact b4n rfl rfl|exact c2e rfl rfl))
   |((with_unfolding_none refine' d0g ?_);rotate_left;exact a2c rfl rfl ⟨by omega,by omega⟩)
   |((with_unfolding_none refine' d0q ?_);rotate_left;exact a1v rfl rfl ⟨by omega,by omega⟩)
   |((with_unfolding_none refine' d0o ?_);rotate_left;exact a0j rfl)
   |((with_unfolding_none refine' c4d ?_);rotate_left;(first|exact c8D he rfl rfl|exact c4U _ he rfl rfl))):OV P n E I L H o v:=h
theorem d2m {rest:List Oper} {op:Op} {v:Value} (hd:Nat.blt d n.sz=true) (h:OV P n E I L H ⟨some d,op,ty,pos,af,none⟩ v) (k:SX n E I ((d,v)::L) H (wpL P ops Q rest)):SX n E I L H (wpL P ops Q (⟨some d,op,ty,pos,af,none⟩::rest)):=o_v hd h k
theorem d2n {rest:List Oper} {op:Op} {j:Nat} {b:Bool} {v:Value} {t:Nat} {c:Bool} (ht:(ops[j]?).bind (·.dst)=some t) (hb:look L t=some (.bool c)) (hv:c=b) (hd:Nat.blt d n.sz=true) (h:OV P n E I L H ⟨some d,op,ty,pos,af,none⟩ v) (k:SX n E I ((d,v)::L) H (wpL P ops Q rest)):SX n E I L H (wpL P ops Q (⟨some d,op,ty,pos,af,some (j,b)⟩::rest)):=a0v (a0y ht hb hv (a0l hd h k))
theorem d2j {rest:List Oper} {op:Op} {j:Nat} {b:Bool} {t:Nat} {c:Bool} (ht:(ops[j]?).bind (·.dst)=some t) (hb:look L t=some (.bool c)) (hv:c = !b) (hd:Nat.blt d n.sz=true) (k:SX n E I ((d,undef)::L) H (wpL P ops Q rest)):SX n E I L H (wpL P ops Q (⟨some d,op,ty,pos,af,some (j,b)⟩::rest)):=a0v (d2k ht hb hv hd k)
theorem d1P {rest:List Oper} {op:Op} {j:Nat} {b:Bool} {t:Nat} {c:Bool} (ht:(ops[j]?).bind (·.dst)=some t) (hb:look L t=some (.bool c)) (hv:c = !b) (k:SX n E I L H (wpL P ops Q rest)):SX n E I L H (wpL P ops Q (⟨none,op,ty,pos,af,some (j,b)⟩::rest)):=a0v (d1R ht hb hv k)
theorem d2l {rest:List Oper} {op:Op} {j:Nat} {b:Bool} {t:Nat} (ht:(ops[j]?).bind (·.dst)=some t) (hb:look L t=some undef) (hd:Nat.blt d n.sz=true) (k:SX n E I ((d,undef)::L) H (wpL P ops Q rest)):SX n E I L H (wpL P ops Q (⟨some d,op,ty,pos,af,some (j,b)⟩::rest)):=a0v (d1S ht hb hd k)
theorem go {g s:Prop} (n:Nat) (hs:s) (h:HN n s→g:=by
  intro h
  repeat (first
   |exact HN.z h
   |replace h:=HN.p h;first
    |((with_unfolding_none refine' d2m ?_ ?_ ?_);rotate_left;exact rfl;exact va)
    |with_unfolding_none refine d0s ?_
    |with_unfolding_none refine d1Q ?_
    |with_unfolding_none refine d1y ?_
    |with_unfolding_none refine c2L ?_
    |with_unfolding_none refine c9n ?_
    |with_unfolding_none refine b8H ?_
    |with_unfolding_none refine d1x ?_
    |with_unfolding_none refine c6i ?_
    |with_unfolding_none refine c7T ?_
    |with_unfolding_none refine b5w ?_
    |with_unfolding_none refine b5v ?_
    |with_unfolding_none refine c9m ?_
    |with_unfolding_none refine b8F ?_
    |((with_unfolding_none refine' d2j ?_ ?_ ?_ ?_ ?_);rotate_left 2;exact rfl;exact rfl;(first|exact rfl|assumption);exact rfl)
    |((with_unfolding_none refine' d2l ?_ ?_ ?_ ?_);rotate_left;exact rfl;exact rfl;exact rfl)
    |((with_unfolding_none refine' d1P ?_ ?_ ?_ ?_);rotate_left 2;exact rfl;exact rfl;(first|exact rfl|assumption))
    |((with_unfolding_none refine' d2n ?_ ?_ ?_ ?_ ?_ ?_);rotate_left 3;exact rfl;exact rfl;(first|exact rfl|assumption);exact rfl;exact va)
    |((with_unfolding_none refine b8G ?_ ?_);exact rfl)
    |with_unfolding_none refine a0v ?_)):g:=h ⟨hs⟩
end
end Go.Sx
namespace Go.Proofs.YtdapmfkbpnjkmaaGreat
open Go Go.Sx
set_option linter.all false
set_option maxRecDepth 20000
set_option maxHeartbeats 4000000
instance T.arr_265:Has (b7M Tryz.prog 265) (256,5,1):=⟨by kernel_rfl⟩
instance T.elt_33:Has (a8D Tryz.prog 33) (9,1):=⟨by kernel_rfl⟩
instance T.ty_265:Has (tyK Tryz.prog 265) (true,256):=⟨by kernel_rfl⟩
instance T.ty_5:Has (tyK Tryz.prog 5) (false,1):=⟨by kernel_rfl⟩
instance T.ty_9:Has (tyK Tryz.prog 9) (false,1):=⟨by kernel_rfl⟩
instance T.und_3:Has (Tryz.prog.underlying 3) (.int .i64):=⟨by kernel_rfl⟩
instance T.und_33:Has (Tryz.prog.underlying 33) (.slice 9):=⟨by kernel_rfl⟩
instance T.und_5:Has (Tryz.prog.underlying 5) (.int .u8):=⟨by kernel_rfl⟩
instance T.und_9:Has (Tryz.prog.underlying 9) (.string):=⟨by kernel_rfl⟩
instance T.zero_265:Has (a1Z Tryz.prog 265) [.int .u8 0,.int .u8 0,.int .u8 0,.int .u8 0,.int .u8 0,.int .u8 0,.int .u8 0,.int .u8 0,.int .u8 0,.int .u8 0,.int .u8 0,.int .u8 0,.int .u8 0,.int .u8 0,.int .u8 0,.int .u8 0,.int .u8 0,.int .u8 0,.int .u8 0,.int .u8 0,.int .u8 0,.int .u8 0,.int .u8 0,.int .u8 0,.int .u8 0,.int .u8 0,.int .u8 0,.int .u8 0,.int .u8 0,.int .u8 0,.int .u8 0,.int .u8 0,.int .u8 0,.int .u8 0,.int .u8 0,.int .u8 0,.int .u8 0,.int .u8 0,.int .u8 0,.int .u8 0,.int .u8 0,.int .u8 0,.int .u8 0,.int .u8 0,.int .u8 0,.int .u8 0,.int .u8 0,.int .u8 0,.int .u8 0,.int .u8 0,.int .u8 0,.int .u8 0,.int .u8 0,.int .u8 0,.int .u8 0,.int .u8 0,.int .u8 0,.int .u8 0,.int .u8 0,.int .u8 0,.int .u8 0,.int .u8 0,.int .u8 0,.int .u8 0,.int .u8 0,.int .u8 0,.int .u8 0,.int .u8 0,.int .u8 0,.int .u8 0,.int .u8 0,.int .u8 0,.int .u8 0,.int .u8 0,.int .u8 0,.int .u8 0,.int .u8 0,.int .u8 0,.int .u8 0,.int .u8 0,.int .u8 0,.int .u8 0,.int .u8 0,.int .u8 0,.int .u8 0,.int .u8 0,.int .u8 0,.int .u8 0,.int .u8 0,.int .u8 0,.int .u8 0,.int .u8 0,.int .u8 0,.int .u8 0,.int .u8 0,.int .u8 0,.int .u8 0,.int .u8 0,.int .u8 0,.int .u8 0,.int .u8 0,.int .u8 0,.int .u8 0,.int .u8 0,.int .u8 0,.int .u8 0,.int .u8 0,.int .u8 0,.int .u8 0,.int .u8 0,.int .u8 0,.int .u8 0,.int .u8 0,.int .u8 0,.int .u8 0,.int .u8 0,.int .u8 0,.int .u8 0,.int .u8 0,.int .u8 0,.int .u8 0,.int .u8 0,.int .u8 0,.int .u8 0,.int .u8 0,.int .u8 0,.int .u8 0,.int .u8 0,.int .u8 0,.int .u8 0,.int .u8 0,.int .u8 0,.int .u8 0,.int .u8 0,.int .u8 0,.int .u8 0,.int .u8 0,.int .u8 0,.int .u8 0,.int .u8 0,.int .u8 0,.int .u8 0,.int .u8 0,.int .u8 0,.int .u8 0,.int .u8 0,.int .u8 0,.int .u8 0,.int .u8 0,.int .u8 0,.int .u8 0,.int .u8 0,.int .u8 0,.int .u8 0,.int .u8 0,.int .u8 0,.int .u8 0,.int .u8 0,.int .u8 0,.int .u8 0,.int .u8 0,.int .u8 0,.int .u8 0,.int .u8 0,.int .u8 0,.int .u8 0,.int .u8 0,.int .u8 0,.int .u8 0,.int .u8 0,.int .u8 0,.int .u8 0,.int .u8 0,.int .u8 0,.int .u8 0,.int .u8 0,.int .u8 0,.int .u8 0,.int .u8 0,.int .u8 0,.int .u8 0,.int .u8 0,.int .u8 0,.int .u8 0,.int .u8 0,.int .u8 0,.int .u8 0,.int .u8 0,.int .u8 0,.int .u8 0,.int .u8 0,.int .u8 0,.int .u8 0,.int .u8 0,.int .u8 0,.int .u8 0,.int .u8 0,.int .u8 0,.int .u8 0,.int .u8 0,.int .u8 0,.int .u8 0,.int .u8 0,.int .u8 0,.int .u8 0,.int .u8 0,.int .u8 0,.int .u8 0,.int .u8 0,.int .u8 0,.int .u8 0,.int .u8 0,.int .u8 0,.int .u8 0,.int .u8 0,.int .u8 0,.int .u8 0,.int .u8 0,.int .u8 0,.int .u8 0,.int .u8 0,.int .u8 0,.int .u8 0,.int .u8 0,.int .u8 0,.int .u8 0,.int .u8 0,.int .u8 0,.int .u8 0,.int .u8 0,.int .u8 0,.int .u8 0,.int .u8 0,.int .u8 0,.int .u8 0,.int .u8 0,.int .u8 0,.int .u8 0,.int .u8 0,.int .u8 0,.int .u8 0,.int .u8 0,.int .u8 0,.int .u8 0,.int .u8 0,.int .u8 0,.int .u8 0,.int .u8 0,.int .u8 0,.int .u8 0,.int .u8 0,.int .u8 0,.int .u8 0,.int .u8 0,.int .u8 0,.int .u8 0]:=⟨by kernel_rfl⟩
theorem b6F (I:IMap) (c:UInt8) :
    FnV Tryz.prog 230 #[.int .u8 (c.toNat:Int)] I (.bool (a3C c)):=by
 refine enter Tryz.func230 Tryz.call230 rfl Tryz.ntmps230 rfl (fun w0=>?_);refine go 10 ?_;refine sxb 5 rfl (fun h5 p5=>?_) (fun h5 p5=>?_)
 ·refine go 4 ?_;refine sxb 9 rfl (fun h9 p9=>?_) (fun h9 p9=>?_)
  ·refine go 11 ?_;refine a0x rfl rfl ?_;exact q_v (by simp[a3C,h5,h9])
  ·refine go 3 ?_;refine sxb 12 rfl (fun h12 p12=>?_) (fun h12 p12=>?_)
   ·refine go 8 ?_;refine a0x rfl rfl ?_;exact q_v (by simp[a3C,h5,h9,h12])
   ·refine go 8 ?_;refine a0x rfl rfl ?_;exact q_v (by simp[a3C,h5,h9,h12])
 ·refine go 7 ?_;refine sxb 12 rfl (fun h12 p12=>?_) (fun h12 p12=>?_)
  ·refine go 8 ?_;refine a0x rfl rfl ?_;exact q_v (by simp[a3C,h5,h12])
  ·refine go 8 ?_;refine a0x rfl rfl ?_;exact q_v (by simp[a3C,h5,h12])
theorem c6H (I:IMap) (c:UInt8) :
    FnV Tryz.prog 283 #[.int .u8 (c.toNat:Int)] I (.bool (a3p c)):=by
 refine enter Tryz.func283 Tryz.call283 rfl Tryz.ntmps283 rfl (fun w0=>?_);refine go 10 ?_;refine sxb 5 rfl (fun h5 p5=>?_) (fun h5 p5=>?_)
 ·refine go 7 ?_;refine a0x rfl rfl ?_;exact q_v (by simp[a3p,h5])
 ·refine go 7 ?_;refine a0x rfl rfl ?_;exact q_v (by simp[a3p,h5])
theorem d0U (I:IMap) (c:UInt8) :
    FnV Tryz.prog 229 #[.int .u8 (c.toNat:Int)] I (.bool (a7q c)):=by
 refine enter Tryz.func229 Tryz.call229 rfl Tryz.ntmps229 rfl (fun w0=>?_);refine go 9 ?_;refine a0a (b6F _ c) rfl rfl ?_;refine go 1 ?_;refine sxb 5 rfl (fun h5 p5=>?_) (fun h5 p5=>?_)
 ·refine go 11 ?_;refine a0x rfl rfl ?_;exact q_v (by simp[a7q,h5])
 ·refine go 2 ?_;refine a0y rfl rfl h5 (a0a (c6H _ c) rfl rfl ?_);refine go 2 ?_;refine sxb 9 rfl (fun h9 p9=>?_) (fun h9 p9=>?_)
  ·refine go 7 ?_;refine a0x rfl rfl ?_;exact q_v (by simp[a7q,h5,h9])
  ·refine go 7 ?_;refine a0x rfl rfl ?_;exact q_v (by simp[a7q,h5,h9])
theorem b3x (I:IMap) (s:ByteArray) (hs:s.size≤9223372036854775807) :
    FnV Tryz.prog 167 #[.string s] I (.bool (a3L s)):=by
 refine enter Tryz.func167 Tryz.call167 rfl Tryz.ntmps167 rfl (fun w0=>?_);refine go 12 ?_
 refine a0L (α:=Nat) 0 (fun i=>I)
  (fun i=>[(0,.string s),(3,.int .i64 (i:Int))])
  (fun i=>[])
  (fun i=>i≤s.size∧a8q s i=true)
  (fun i=>s.size-i) ⟨Nat.zero_le _,rfl⟩ rfl sb rfl ?_
 intro i ⟨hi,hn⟩;refine go 9 ?_;refine cb rfl (fun h7 p7=>?_) (fun h7 p7=>?_)
 ·refine go 8 ?_;refine o_v rfl (c2f he rfl rfl i (by omega) (by omega)) ?_;refine go 1 ?_;refine a0a (d0U _ _) rfl rfl ?_;refine go 3 ?_;refine cb rfl (fun h14 p14=>?_) (fun h14 p14=>?_)
  ·refine go 11 ?_;refine a0x rfl rfl ?_;exact q_v (by simp[a3L,c2k (show i<s.size by omega) p14])
  ·refine go 9 ?_;exact a0J (i+1) ⟨by omega,b8X hn p14⟩ (by omega) rfl sb rfl
 ·refine go 11 ?_;refine sxb 18 rfl (fun h18 p18=>?_) (fun h18 p18=>?_)
  ·refine go 5 ?_;refine sxb 23 rfl (fun h23 p23=>?_) (fun h23 p23=>?_)
   ·refine go 1 ?_;refine a0v (a0y rfl rfl h23 (a0l rfl (c2f he rfl rfl 0 (by omega) (by omega)) ?_));refine go 1 ?_;refine a0y rfl rfl h23 (a0a (b6F _ _) rfl rfl ?_);refine go 5 ?_;refine a0x rfl rfl ?_;exact q_v (by have e:i=s.size:=(by omega);subst e;simp only[a3L,hn,h7,h18,h23,bS])
   ·refine go 8 ?_;refine a0x rfl rfl ?_;exact q_v (by have e:i=s.size:=(by omega);subst e;simp only[a3L,hn,h7,h18,h23,bS])
  ·refine go 13 ?_;refine a0x rfl rfl ?_;exact q_v (by have e:i=s.size:=(by omega);subst e;simp only[a3L,hn,h7,h18,bS])
theorem a6G (args:Array Value) (w:World):(callFunc 334 args).run Tryz.prog w=((Extern.BytealgIndexByte.indexByte args).run Tryz.prog w).andThen fun v w'=>.ok (.value v) w':=by
 have h1:Extern.findNext Tryz.f334=none:=by kernel_rfl
 have h2:Extern.find Tryz.f334=some Extern.BytealgIndexByte.indexByte:=by kernel_rfl
 have h3 : (Tryz.f334.name == "runtime.NumGoroutine") = false := by kernel_rfl
 have h4:Tryz.f334.body.isNone=true:=rfl
 simp only[callFunc,Sem.run_bind,run_program,Result.andThen_ok,Tryz.func334,h3,h4,h1,h2]
 simp
theorem a9E (I:IMap) (s:ByteArray) (c:UInt8):FnV Tryz.prog 334 #[.string s,.int .u8 (c.toNat:Int)] I (.int .i64 (Lib.indexByte s.data.toList c)):=by
 refine⟨fun w m=>?_⟩;unfold After;rw[a6G,Lib.run_indexByteString];exact⟨_,I,[],rfl,m,by simp,rfl,rfl⟩
theorem b2a (I:IMap) (s:ByteArray) (c:UInt8) :
    FnV Tryz.prog 305 #[.string s,.int .u8 (c.toNat:Int)] I (.int .i64 (Lib.indexByte s.data.toList c)):=by
 refine enter Tryz.func305 Tryz.call305 rfl Tryz.ntmps305 rfl (fun w0=>?_);refine go 10 ?_;refine a0a (a9E I s c) rfl rfl ?_;refine go 4 ?_;refine a0x rfl rfl ?_;exact q_v rfl
theorem indexByte (I:IMap) (s:ByteArray) (c:UInt8) :
    FnV Tryz.prog 248 #[.string s,.int .u8 (c.toNat:Int)] I (.int .i64 (Lib.indexByte s.data.toList c)):=by
 refine enter Tryz.func248 Tryz.call248 rfl Tryz.ntmps248 rfl (fun w0=>?_);refine go 10 ?_;refine a0a (b2a I s c) rfl rfl ?_;refine go 4 ?_;refine a0x rfl rfl ?_;exact q_v rfl
theorem c6p (I:IMap) :
    FnV Tryz.prog 199 #[] I (.agg clsTab.toArray):=by
 refine enter Tryz.func199 Tryz.call199 rfl Tryz.ntmps199 rfl (fun w0=>?_);refine go 3 ?_;refine a0h he rfl (fun g0=>?_);refine go 5 ?_;refine a0h he rfl (fun g1=>?_);refine go 9 ?_
 refine a0L (α:=Nat) 0 (fun i=>I)
  (fun i=>[(1,.pointer (some ⟨g1,0,none⟩)),(0,.pointer (some ⟨g0,0,none⟩)),(4,.int .i64 (i:Int))])
  (fun i=>[.blk g1 265 (a3V i),.blk g0 265 (a3V 0)])
  (fun i=>i≤256)
  (fun i=>256-i) (by omega) rfl sb rfl ?_
 intro i hi;refine go 6 ?_;refine cb rfl (fun h5 p5=>?_) (fun h5 p5=>?_)
 ·have hlt:i<256:=by omega
  have hb:((i.toUInt8.toNat:Nat):Int)=(i:Int):=by simp;omega
  refine go 3 ?_;refine a2z (I':=I) (L':=[(1,.pointer (some ⟨g1,0,none⟩)),(0,.pointer (some ⟨g0,0,none⟩)),(4,.int .i64 (i:Int))]) (H':=[.blk g1 265 (a3V (i+1)),.blk g0 265 (a3V 0)]) ?_ ?_
  ·refine go 10 ?_;refine o_v rfl (a2k he he rfl (m:=((i.toUInt8.toNat:Nat):Int)) (by rw[hb];exact c2m i hlt)) ?_;refine go 5 ?_;refine b9x (L':=[(1,.pointer (some ⟨g1,0,none⟩)),(0,.pointer (some ⟨g0,0,none⟩)),(4,.int .i64 (i:Int)),(2,.int .i64 (i:Int)),(3,.int .u8 (i.toUInt8.toNat:Int)),(9,.bool (a6u i.toUInt8||b0s i.toUInt8))]) ?_ ?_
   ·refine go 1 ?_;refine b9x (L':=[(1,.pointer (some ⟨g1,0,none⟩)),(0,.pointer (some ⟨g0,0,none⟩)),(4,.int .i64 (i:Int)),(2,.int .i64 (i:Int)),(3,.int .u8 (i.toUInt8.toNat:Int)),(9,.bool (a6u i.toUInt8))]) ?_ ?_
    ·refine go 4 ?_;refine sxb 12 rfl (fun h12 p12=>?_) (fun h12 p12=>?_)
     ·refine go 6 ?_;exact a0E ⟨rfl,rfl,rfl,rfl,rfl,(congrArg (fun b=>some (Value.bool b)) (by simp only[a6u,h5,h12,bS])),trivial⟩ rfl rfl
     ·refine go 6 ?_;exact a0E ⟨rfl,rfl,rfl,rfl,rfl,(congrArg (fun b=>some (Value.bool b)) (by simp only[a6u,h5,h12,bS])),trivial⟩ rfl rfl
    ·refine cb rfl (fun h9 p9=>?_) (fun h9 p9=>?_)
     ·refine go 2 ?_;exact a0E ⟨rfl,rfl,rfl,rfl,rfl,(congrArg (fun b=>some (Value.bool b)) (by simp only[b0s,h9,bS])),trivial⟩ rfl rfl
     ·refine go 4 ?_;refine sxb 18 rfl (fun h18 p18=>?_) (fun h18 p18=>?_)
      ·refine go 6 ?_;exact a0E ⟨rfl,rfl,rfl,rfl,rfl,(congrArg (fun b=>some (Value.bool b)) (by simp only[b0s,h9,h18,bS])),trivial⟩ rfl rfl
      ·refine go 6 ?_;exact a0E ⟨rfl,rfl,rfl,rfl,rfl,(congrArg (fun b=>some (Value.bool b)) (by simp only[b0s,h9,h18,bS])),trivial⟩ rfl rfl
   ·refine cb rfl (fun h9 p9=>?_) (fun h9 p9=>?_)
    ·refine go 2 ?_;refine o_v rfl (a5x he rfl rfl i (by omega) (by omega)) ?_;refine go 1 ?_;refine a3r he rfl rfl rfl (by rw[a3t,Nat.blt_eq];omega) ?_;refine go 4 ?_;exact a0E sb (congrArg (fun r=>[Res.blk g1 _ r,_]) (a7b i hlt _ (c6s h9))) rfl
    ·refine go 1 ?_;refine b9x (L':=[(1,.pointer (some ⟨g1,0,none⟩)),(0,.pointer (some ⟨g0,0,none⟩)),(4,.int .i64 (i:Int)),(2,.int .i64 (i:Int)),(3,.int .u8 (i.toUInt8.toNat:Int)),(24,.bool (a3p i.toUInt8))]) ?_ ?_
     ·refine go 4 ?_;refine sxb 27 rfl (fun h27 p27=>?_) (fun h27 p27=>?_)
      ·refine go 6 ?_;exact a0E ⟨rfl,rfl,rfl,rfl,rfl,(congrArg (fun b=>some (Value.bool b)) (by simp only[a3p,h9,h27,bS])),trivial⟩ rfl rfl
      ·refine go 6 ?_;exact a0E ⟨rfl,rfl,rfl,rfl,rfl,(congrArg (fun b=>some (Value.bool b)) (by simp only[a3p,h9,h27,bS])),trivial⟩ rfl rfl
     ·refine cb rfl (fun h24 p24=>?_) (fun h24 p24=>?_)
      ·refine go 2 ?_;refine o_v rfl (a5x he rfl rfl i (by omega) (by omega)) ?_;refine go 1 ?_;refine a3r he rfl rfl rfl (by rw[a3t,Nat.blt_eq];omega) ?_;refine go 4 ?_;exact a0E sb (congrArg (fun r=>[Res.blk g1 _ r,_]) (a7b i hlt _ (c6t h9 h24))) rfl
      ·refine go 4 ?_;refine a0a (indexByte I _ i.toUInt8) rfl rfl ?_;refine go 4 ?_;refine cb rfl (fun h33 p33=>?_) (fun h33 p33=>?_)
       ·refine go 2 ?_;refine o_v rfl (a5x he rfl rfl i (by omega) (by omega)) ?_;refine go 1 ?_;refine a3r he rfl rfl rfl (by rw[a3t,Nat.blt_eq];omega) ?_;refine go 4 ?_;exact a0E sb (congrArg (fun r=>[Res.blk g1 _ r,_]) (a7b i hlt _ (c6r h9 h24 h33))) rfl
       ·refine go 4 ?_;refine a0a (indexByte I _ i.toUInt8) rfl rfl ?_;refine go 4 ?_;refine cb rfl (fun h39 p39=>?_) (fun h39 p39=>?_)
        ·refine go 2 ?_;refine o_v rfl (a5x he rfl rfl i (by omega) (by omega)) ?_;refine go 1 ?_;refine a3r he rfl rfl rfl (by rw[a3t,Nat.blt_eq];omega) ?_;refine go 4 ?_;exact a0E sb (congrArg (fun r=>[Res.blk g1 _ r,_]) (a7b i hlt _ (c6u h9 h24 h33 h39))) rfl
        ·refine go 4 ?_;exact a0E sb (congrArg (fun r=>[Res.blk g1 _ r,_]) (b4G i hlt (c6q h9 h24 h33 h39)).symm) rfl
  ·refine go 5 ?_;exact a0J (i+1) (by omega) (by omega) rfl sb rfl
 ·refine go 7 ?_;refine o_v rfl (a5x he rfl rfl 35 rfl (by omega)) ?_;refine go 1 ?_;refine a3r he rfl rfl rfl (by simp only[List.length_set,a3t];rfl) ?_;refine o_v rfl (a5x he rfl rfl 95 rfl (by omega)) ?_;refine go 1 ?_;refine a3r he rfl rfl rfl (by simp only[List.length_set,a3t];rfl) ?_;refine o_v rfl (a5x he rfl rfl 34 rfl (by omega)) ?_;refine go 1 ?_;refine a3r he rfl rfl rfl (by simp only[List.length_set,a3t];rfl) ?_;refine go 6 ?_;refine a0g ?_;refine a0m _ he rfl rfl rfl rfl rfl rfl ?_;refine go 3 ?_;refine a0x rfl ⟨_,_,_,rfl,m0,.inr ⟨_,he,rfl,rfl⟩⟩ ?_
  have e:i=256:=(by omega)
  subst e;exact q_v rfl
theorem a7Y (I:IMap) (s:ByteArray) (hs:s.size≤9223372036854775807) :
    FnV Tryz.prog 126 #[.string s] I (.bool (a2v s)):=by
 refine enter Tryz.func126 Tryz.call126 rfl Tryz.ntmps126 rfl (fun w0=>?_);refine go 8 ?_;refine a0a (c6p _) rfl rfl ?_;refine go 1 ?_;refine a0h he rfl (fun g3=>?_);refine go 1 ?_;refine a0m _ he rfl rfl rfl rfl rfl rfl ?_;refine go 11 ?_
 refine a0L (α:=Nat) 0 (fun i=>I)
  (fun i=>[(0,.string s),(3,.pointer (some ⟨g3,0,none⟩)),(8,.int .i64 (s.size:Int)),(9,.int .i64 (i:Int))])
  (fun i=>[.blk g3 265 clsTab])
  (fun i=>i≤s.size∧a7R s i=true)
  (fun i=>s.size-i) ⟨Nat.zero_le _,rfl⟩ rfl sb rfl ?_
 intro i ⟨hi,hn⟩;refine go 6 ?_;refine cb rfl (fun h10 p10=>?_) (fun h10 p10=>?_)
 ·refine go 14 ?_;refine o_v rfl (c2f he rfl rfl i (by omega) (by omega)) ?_;refine o_v rfl (a5x he rfl rfl (s[i]!).toNat rfl (s[i]!).toNat_lt) ?_;refine o_v rfl (a6t m0 he rfl (by rw[show 0+(s[i]!).toNat * 1=(s[i]!).toNat from by omega];exact b9E _)) ?_;refine go 8 ?_;refine sxb 19 rfl (fun h19 p19=>?_) (fun h19 p19=>?_)
  ·refine go 3 ?_;refine sxb 22 rfl (fun h22 p22=>?_) (fun h22 p22=>?_)
   ·refine go 10 ?_;refine a3c rfl ?_;refine go 11 ?_;refine a0x rfl rfl ?_;exact q_v (by simp only[a2v,b2X (show i<s.size by omega) (show a3n s i=false by simp only[a3n,←(a4C _).1,←(a4C _).2.1,←(a4C _).2.2];simp_all),bS])
   ·refine go 3 ?_;refine sxb 25 rfl (fun h25 p25=>?_) (fun h25 p25=>?_)
    ·refine go 7 ?_;refine cb rfl (fun h30 p30=>?_) (fun h30 p30=>?_)
     ·refine go 11 ?_;refine a0x rfl rfl ?_;exact q_v (by simp only[a2v,b2X (show i<s.size by omega) (show a3n s i=false by simp only[a3n,←(a4C _).1,←(a4C _).2.1,←(a4C _).2.2];simp_all),bS])
     ·refine go 8 ?_;exact a0J (i+1) ⟨by omega,a7S hn (by simp only[a3n,←(a4C _).1,←(a4C _).2.1,←(a4C _).2.2];simp_all)⟩ (by omega) rfl sb rfl
    ·refine go 7 ?_;refine a0P rfl ?_;refine go 8 ?_;exact a0J (i+1) ⟨by omega,a7S hn (by simp only[a3n,←(a4C _).1,←(a4C _).2.1,←(a4C _).2.2];simp_all)⟩ (by omega) rfl sb rfl
  ·refine go 13 ?_;refine a0P rfl ?_;refine go 8 ?_;exact a0J (i+1) ⟨by omega,a7S hn (by simp only[a3n,←(a4C _).1,←(a4C _).2.1,←(a4C _).2.2];simp_all)⟩ (by omega) rfl sb rfl
 ·refine go 10 ?_;refine sxb 34 rfl (fun h34 p34=>?_) (fun h34 p34=>?_)
  ·refine go 8 ?_;refine a0x rfl rfl ?_
   have e:i=s.size:=(by omega)
   subst e;exact q_v (by simp only[a2v,hn,h10,h34,bS])
  ·refine go 8 ?_;refine a0x rfl rfl ?_
   have e:i=s.size:=(by omega)
   subst e;exact q_v (by simp only[a2v,hn,h10,h34,bS])
end Go.Proofs.YtdapmfkbpnjkmaaGreat
namespace Go.Proofs.YtdapmfkbpnjkmaaGreat
open Go Go.Sx
set_option linter.all false
set_option maxRecDepth 20000
set_option maxHeartbeats 4000000
instance T.by_9:Has (a2y Tryz.prog 9) ([.string ⟨#[]⟩],1,16):=⟨by kernel_rfl⟩
instance T.elt_166:Has (a8D Tryz.prog 166) (170,3):=⟨by kernel_rfl⟩
instance T.elt_22:Has (a8D Tryz.prog 22) (168,3):=⟨by kernel_rfl⟩
instance T.elt_51:Has (a8D Tryz.prog 51) (48,14):=⟨by kernel_rfl⟩
instance T.elt_62:Has (a8D Tryz.prog 62) (96,14):=⟨by kernel_rfl⟩
instance T.fld_168_0:Has (a3G Tryz.prog 168 0) (0,false,1):=⟨by kernel_rfl⟩
instance T.fld_168_1:Has (a3G Tryz.prog 168 1) (1,false,1):=⟨by kernel_rfl⟩
instance T.fld_168_2:Has (a3G Tryz.prog 168 2) (2,false,1):=⟨by kernel_rfl⟩
instance T.fld_170_0:Has (a3G Tryz.prog 170 0) (0,false,1):=⟨by kernel_rfl⟩
instance T.fld_170_1:Has (a3G Tryz.prog 170 1) (1,false,1):=⟨by kernel_rfl⟩
instance T.fld_170_2:Has (a3G Tryz.prog 170 2) (2,false,1):=⟨by kernel_rfl⟩
instance T.fld_24_0:Has (a3G Tryz.prog 24 0) (0,false,1):=⟨by kernel_rfl⟩
theorem T.mixed:Tryz.prog.follows .mixedOrders=true:=by kernel_rfl
instance T.pl_168:Has (plK Tryz.prog 168) [(0,1),(1,1),(2,1)]:=⟨by kernel_rfl⟩
instance T.pl_170:Has (plK Tryz.prog 170) [(0,1),(1,1),(2,1)]:=⟨by kernel_rfl⟩
instance T.pl_24:Has (plK Tryz.prog 24) [(0,1)]:=⟨by kernel_rfl⟩
instance T.ty_166:Has (tyK Tryz.prog 166) (false,1):=⟨by kernel_rfl⟩
instance T.ty_168:Has (tyK Tryz.prog 168) (true,3):=⟨by kernel_rfl⟩
instance T.ty_170:Has (tyK Tryz.prog 170) (true,3):=⟨by kernel_rfl⟩
instance T.ty_22:Has (tyK Tryz.prog 22) (false,1):=⟨by kernel_rfl⟩
instance T.ty_24:Has (tyK Tryz.prog 24) (true,1):=⟨by kernel_rfl⟩
instance T.ty_283:Has (tyK Tryz.prog 283) (false,1):=⟨by kernel_rfl⟩
instance T.ty_3:Has (tyK Tryz.prog 3) (false,1):=⟨by kernel_rfl⟩
instance T.ty_33:Has (tyK Tryz.prog 33) (false,1):=⟨by kernel_rfl⟩
instance T.ty_331:Has (tyK Tryz.prog 331) (false,1):=⟨by kernel_rfl⟩
instance T.ty_4:Has (tyK Tryz.prog 4) (false,1):=⟨by kernel_rfl⟩
instance T.ty_48:Has (tyK Tryz.prog 48) (true,14):=⟨by kernel_rfl⟩
instance T.ty_96:Has (tyK Tryz.prog 96) (true,14):=⟨by kernel_rfl⟩
instance T.und_166:Has (Tryz.prog.underlying 166) (.slice 170):=⟨by kernel_rfl⟩
instance T.und_184:Has (Tryz.prog.underlying 184) (.map 9 4):=⟨by kernel_rfl⟩
instance T.und_22:Has (Tryz.prog.underlying 22) (.slice 168):=⟨by kernel_rfl⟩
instance T.und_51:Has (Tryz.prog.underlying 51) (.slice 48):=⟨by kernel_rfl⟩
instance T.und_62:Has (Tryz.prog.underlying 62) (.slice 96):=⟨by kernel_rfl⟩
instance T.zero_168:Has (a1Z Tryz.prog 168) [.string ⟨#[]⟩,.bool false,.slice none 0 0]:=⟨by kernel_rfl⟩
instance T.zero_170:Has (a1Z Tryz.prog 170) [.string ⟨#[]⟩,.slice none 0 0,.int .i64 0]:=⟨by kernel_rfl⟩
instance T.zero_24:Has (a1Z Tryz.prog 24) [.slice none 0 0]:=⟨by kernel_rfl⟩
instance T.zero_9:Has (a1Z Tryz.prog 9) [.string ⟨#[]⟩]:=⟨by kernel_rfl⟩
instance T.zv_4:Has (zvK Tryz.prog 4) (.bool false):=⟨by kernel_rfl⟩
theorem b3o (I:IMap) (x:Int) :
    FnV Tryz.prog 210 #[.int .i64 x] I (.bool false):=by
 refine enter Tryz.func210 Tryz.call210 rfl Tryz.ntmps210 rfl (fun w0=>?_);refine go 14 ?_;refine a0x rfl rfl ?_;exact q_v (by simp)
theorem a8v (I:IMap) (x:ByteArray) :
    FnV Tryz.prog 109 #[.string x] I (.bool false):=by
 refine enter Tryz.func109 Tryz.call109 rfl Tryz.ntmps109 rfl (fun w0=>?_);refine go 14 ?_;refine a0x rfl rfl ?_;exact q_v (by simp)
theorem b4J (I:IMap) (x y:Int) :
    FnV Tryz.prog 143 #[.int .i64 x,.int .i64 y] I (.int .i64 (b4H x y)):=by
 refine enter Tryz.func143 Tryz.call143 rfl Tryz.ntmps143 rfl (fun w0=>?_);refine go 9 ?_;refine a0a (b3o I x) rfl rfl ?_;refine go 7 ?_;refine a0a (b3o I y) rfl rfl ?_;refine go 9 ?_;refine a0P rfl ?_;refine go 8 ?_;refine a0P rfl ?_;refine go 10 ?_;refine cb rfl (fun h16 p16=>?_) (fun h16 p16=>?_)
 ·refine go 7 ?_;refine a0x rfl rfl ?_;exact q_v (by unfold b4H;simp only[p16,if_true])
 ·refine go 10 ?_;refine cb rfl (fun h19 p19=>?_) (fun h19 p19=>?_)
  ·refine go 7 ?_;refine a0x rfl rfl ?_;exact q_v (by unfold b4H;simp only[p16,p19,if_true,if_false])
  ·refine go 8 ?_;refine a0x rfl rfl ?_;exact q_v (by unfold b4H;simp only[p16,p19,if_false])
theorem a6v (I:IMap) (x y:ByteArray) :
    FnV Tryz.prog 57 #[.string x,.string y] I (.int .i64 (b9a x y)):=by
 refine enter Tryz.func57 Tryz.call57 rfl Tryz.ntmps57 rfl (fun w0=>?_);refine go 9 ?_;refine a0a (a8v I x) rfl rfl ?_;refine go 7 ?_;refine a0a (a8v I y) rfl rfl ?_;refine go 9 ?_;refine a0P rfl ?_;refine go 8 ?_;refine a0P rfl ?_;refine go 10 ?_;refine cb rfl (fun h16 p16=>?_) (fun h16 p16=>?_)
 ·refine go 7 ?_;refine a0x rfl rfl ?_;exact q_v (by unfold b9a;rw[if_pos h16])
 ·refine go 10 ?_;refine cb rfl (fun h19 p19=>?_) (fun h19 p19=>?_)
  ·refine go 7 ?_;refine a0x rfl rfl ?_;exact q_v (by unfold b9a;rw[if_neg (by rw[h16];decide),if_pos h19])
  ·refine go 8 ?_;refine a0x rfl rfl ?_;exact q_v (by unfold b9a;rw[if_neg (by rw[h16];decide),if_neg (by rw[h19];decide)])
theorem b0v (I:IMap) (v:Value) (l:List Kind) (hv:RdS I v l) (f:FuncId) (cs:List Value) (p:Kind→Bool) (hp:∀x∈l,∀vs,Enc.rd I vs x→FnV Tryz.prog f ([Value.agg vs.toArray]++cs).toArray I (.bool (p x))) :
    FnV Tryz.prog 265 #[v,.func (.func f) #[] cs.toArray] I (.int .i64 (a6s p l)):=by
 obtain⟨A,c,rfl,hA,hc,hm⟩:=hv;refine enter Tryz.func265 Tryz.call265 rfl Tryz.ntmps265 rfl (fun w0=>?_);refine go 14 ?_
 refine a0L (α:=Nat) 0 (fun i=>I)
  (fun i=>[(0,.slice A l.length c),(1,.func (.func f) #[] cs.toArray),(7,.int .i64 (l.length:Int)),(8,.int .i64 (i:Int))])
  (fun i=>[])
  (fun i=>i≤l.length∧∀j x,j<i→l[j]? = some x→p x=false)
  (fun i=>l.length-i) ⟨Nat.zero_le _,fun j x hj=>absurd hj (Nat.not_lt_zero j)⟩ rfl sb rfl ?_
 intro i ⟨hi,hn⟩;refine go 6 ?_;refine cb rfl (fun h9 p9=>?_) (fun h9 p9=>?_)
 ·have hlt:i<l.length:=by omega
  refine go 15 ?_;obtain⟨b14,o14,w14,e14,c14,r14⟩:=RdA.at_ hA (i:=i) hlt;refine o_v rfl (a0n he rfl rfl e14 (i) (by omega) hlt) ?_;refine o_v rfl (a0H he rfl c14 (Enc.len r14)) ?_;refine go 1 ?_;refine a0a (hp _ (List.getElem_mem hlt) _ r14) rfl rfl ?_;refine go 2 ?_;refine cb rfl (fun h16 p16=>?_) (fun h16 p16=>?_)
  ·refine go 12 ?_;refine a0x rfl rfl ?_;exact q_v (congrArg (Value.int .i64) (a4z hlt p16 hn).symm)
  ·refine go 8 ?_;exact a0J (i+1) ⟨by omega,a5E hn hlt p16⟩ (by omega) rfl sb rfl
 ·refine go 11 ?_;refine a0x rfl rfl ?_;exact q_v (congrArg (Value.int .i64) (a5n (fun j x hj=>hn j x (by omega))).symm)
theorem b0x (I:IMap) (v:Value) (l:List Slot) (hv:RdS I v l) (f:FuncId) (cs:List Value) (p:Slot→Bool) (hp:∀x∈l,∀vs,Enc.rd I vs x→FnV Tryz.prog f ([Value.agg vs.toArray]++cs).toArray I (.bool (p x))) :
    FnV Tryz.prog 319 #[v,.func (.func f) #[] cs.toArray] I (.int .i64 (a6s p l)):=by
 obtain⟨A,c,rfl,hA,hc,hm⟩:=hv;refine enter Tryz.func319 Tryz.call319 rfl Tryz.ntmps319 rfl (fun w0=>?_);refine go 14 ?_
 refine a0L (α:=Nat) 0 (fun i=>I)
  (fun i=>[(0,.slice A l.length c),(1,.func (.func f) #[] cs.toArray),(7,.int .i64 (l.length:Int)),(8,.int .i64 (i:Int))])
  (fun i=>[])
  (fun i=>i≤l.length∧∀j x,j<i→l[j]? = some x→p x=false)
  (fun i=>l.length-i) ⟨Nat.zero_le _,fun j x hj=>absurd hj (Nat.not_lt_zero j)⟩ rfl sb rfl ?_
 intro i ⟨hi,hn⟩;refine go 6 ?_;refine cb rfl (fun h9 p9=>?_) (fun h9 p9=>?_)
 ·have hlt:i<l.length:=by omega
  refine go 15 ?_;obtain⟨b14,o14,w14,e14,c14,r14⟩:=RdA.at_ hA (i:=i) hlt;refine o_v rfl (a0n he rfl rfl e14 (i) (by omega) hlt) ?_;refine o_v rfl (a0H he rfl c14 (Enc.len r14)) ?_;refine go 1 ?_;refine a0a (hp _ (List.getElem_mem hlt) _ r14) rfl rfl ?_;refine go 2 ?_;refine cb rfl (fun h16 p16=>?_) (fun h16 p16=>?_)
  ·refine go 12 ?_;refine a0x rfl rfl ?_;exact q_v (congrArg (Value.int .i64) (a4z hlt p16 hn).symm)
  ·refine go 8 ?_;exact a0J (i+1) ⟨by omega,a5E hn hlt p16⟩ (by omega) rfl sb rfl
 ·refine go 11 ?_;refine a0x rfl rfl ?_;exact q_v (congrArg (Value.int .i64) (a5n (fun j x hj=>hn j x (by omega))).symm)
theorem b0w (I:IMap) (v:Value) (l:List Part) (hv:RdS I v l) (f:FuncId) (cs:List Value) (p:Part→Bool) (hp:∀x∈l,∀vs,Enc.rd I vs x→FnV Tryz.prog f ([Value.agg vs.toArray]++cs).toArray I (.bool (p x))) :
    FnV Tryz.prog 219 #[v,.func (.func f) #[] cs.toArray] I (.int .i64 (a6s p l)):=by
 obtain⟨A,c,rfl,hA,hc,hm⟩:=hv;refine enter Tryz.func219 Tryz.call219 rfl Tryz.ntmps219 rfl (fun w0=>?_);refine go 14 ?_
 refine a0L (α:=Nat) 0 (fun i=>I)
  (fun i=>[(0,.slice A l.length c),(1,.func (.func f) #[] cs.toArray),(7,.int .i64 (l.length:Int)),(8,.int .i64 (i:Int))])
  (fun i=>[])
  (fun i=>i≤l.length∧∀j x,j<i→l[j]? = some x→p x=false)
  (fun i=>l.length-i) ⟨Nat.zero_le _,fun j x hj=>absurd hj (Nat.not_lt_zero j)⟩ rfl sb rfl ?_
 intro i ⟨hi,hn⟩;refine go 6 ?_;refine cb rfl (fun h9 p9=>?_) (fun h9 p9=>?_)
 ·have hlt:i<l.length:=by omega
  refine go 15 ?_;obtain⟨b14,o14,w14,e14,c14,r14⟩:=RdA.at_ hA (i:=i) hlt;refine o_v rfl (a0n he rfl rfl e14 (i) (by omega) hlt) ?_;refine o_v rfl (a0H he rfl c14 (Enc.len r14)) ?_;refine go 1 ?_;refine a0a (hp _ (List.getElem_mem hlt) _ r14) rfl rfl ?_;refine go 2 ?_;refine cb rfl (fun h16 p16=>?_) (fun h16 p16=>?_)
  ·refine go 12 ?_;refine a0x rfl rfl ?_;exact q_v (congrArg (Value.int .i64) (a4z hlt p16 hn).symm)
  ·refine go 8 ?_;exact a0J (i+1) ⟨by omega,a5E hn hlt p16⟩ (by omega) rfl sb rfl
 ·refine go 11 ?_;refine a0x rfl rfl ?_;exact q_v (congrArg (Value.int .i64) (a5n (fun j x hj=>hn j x (by omega))).symm)
theorem a7T (I:IMap) (v:Value) (l:List Part) (hv:RdS I v l) (f:FuncId) (cs:List Value) (p:Part→Bool) (hp:∀x∈l,∀vs,Enc.rd I vs x→FnV Tryz.prog f ([Value.agg vs.toArray]++cs).toArray I (.bool (p x))) :
    FnV Tryz.prog 151 #[v,.func (.func f) #[] cs.toArray] I (.bool (l.any p)):=by
 refine enter Tryz.func151 Tryz.call151 rfl Tryz.ntmps151 rfl (fun w0=>?_);refine go 10 ?_;refine a0a (b0w I v l hv f cs p hp) rfl rfl ?_;refine go 5 ?_;refine a0x rfl rfl ?_;exact q_v (congrArg Value.bool (a8T p l))
theorem b2b (I:IMap) (v:Value) (l:List Evt) (hv:RdS I v l) (f:FuncId) (cs:List Value) (p:Evt→Bool) (hp:∀x∈l,∀vs,Enc.rd I vs x→FnV Tryz.prog f ([Value.agg vs.toArray]++cs).toArray I (.bool (p x))) :
    FnV Tryz.prog 140 #[v,.func (.func f) #[] cs.toArray] I (.int .i64 (a6s p l)):=by
 obtain⟨A,c,rfl,hA,hc,hm⟩:=hv;refine enter Tryz.func140 Tryz.call140 rfl Tryz.ntmps140 rfl (fun w0=>?_);refine go 14 ?_
 refine a0L (α:=Nat) 0 (fun i=>I)
  (fun i=>[(0,.slice A l.length c),(1,.func (.func f) #[] cs.toArray),(7,.int .i64 (l.length:Int)),(8,.int .i64 (i:Int))])
  (fun i=>[])
  (fun i=>i≤l.length∧∀j x,j<i→l[j]? = some x→p x=false)
  (fun i=>l.length-i) ⟨Nat.zero_le _,fun j x hj=>absurd hj (Nat.not_lt_zero j)⟩ rfl sb rfl ?_
 intro i ⟨hi,hn⟩;refine go 6 ?_;refine cb rfl (fun h9 p9=>?_) (fun h9 p9=>?_)
 ·have hlt:i<l.length:=by omega
  refine go 15 ?_;obtain⟨b14,o14,w14,e14,c14,r14⟩:=RdA.at_ hA (i:=i) hlt;refine o_v rfl (a0n he rfl rfl e14 (i) (by omega) hlt) ?_;refine o_v rfl (a0H he rfl c14 (Enc.len r14)) ?_;refine go 1 ?_;refine a0a (hp _ (List.getElem_mem hlt) _ r14) rfl rfl ?_;refine go 2 ?_;refine cb rfl (fun h16 p16=>?_) (fun h16 p16=>?_)
  ·refine go 12 ?_;refine a0x rfl rfl ?_;exact q_v (congrArg (Value.int .i64) (a4z hlt p16 hn).symm)
  ·refine go 8 ?_;exact a0J (i+1) ⟨by omega,a5E hn hlt p16⟩ (by omega) rfl sb rfl
 ·refine go 11 ?_;refine a0x rfl rfl ?_;exact q_v (congrArg (Value.int .i64) (a5n (fun j x hj=>hn j x (by omega))).symm)
theorem a8H (I:IMap) (v:Value) (l:List ByteArray) (hv:RdS I v l) (f:FuncId) (cs:List Value) (p:ByteArray→Bool) (hp:∀x∈l,∀vs,Enc.rd I vs x→FnV Tryz.prog f ([Value.string x]++cs).toArray I (.bool (p x))) :
    FnV Tryz.prog 200 #[v,.func (.func f) #[] cs.toArray] I (.int .i64 (a6s p l)):=by
 obtain⟨A,c,rfl,hA,hc,hm⟩:=hv;refine enter Tryz.func200 Tryz.call200 rfl Tryz.ntmps200 rfl (fun w0=>?_);refine go 14 ?_
 refine a0L (α:=Nat) 0 (fun i=>I)
  (fun i=>[(0,.slice A l.length c),(1,.func (.func f) #[] cs.toArray),(7,.int .i64 (l.length:Int)),(8,.int .i64 (i:Int))])
  (fun i=>[])
  (fun i=>i≤l.length∧∀j x,j<i→l[j]? = some x→p x=false)
  (fun i=>l.length-i) ⟨Nat.zero_le _,fun j x hj=>absurd hj (Nat.not_lt_zero j)⟩ rfl sb rfl ?_
 intro i ⟨hi,hn⟩;refine go 6 ?_;refine cb rfl (fun h9 p9=>?_) (fun h9 p9=>?_)
 ·have hlt:i<l.length:=by omega
  refine go 15 ?_;obtain⟨b14,o14,w14,e14,c14,r14⟩:=RdA.at_ hA (i:=i) hlt;obtain rfl:=r14;refine o_v rfl (a0n he rfl rfl e14 (i) (by omega) hlt) ?_;refine o_v rfl (a0W he rfl (c14 0 _ rfl)) ?_;refine go 1 ?_;refine a0a (hp _ (List.getElem_mem hlt) _ rfl) rfl rfl ?_;refine go 2 ?_;refine cb rfl (fun h16 p16=>?_) (fun h16 p16=>?_)
  ·refine go 12 ?_;refine a0x rfl rfl ?_;exact q_v (congrArg (Value.int .i64) (a4z hlt p16 hn).symm)
  ·refine go 8 ?_;exact a0J (i+1) ⟨by omega,a5E hn hlt p16⟩ (by omega) rfl sb rfl
 ·refine go 11 ?_;refine a0x rfl rfl ?_;exact q_v (congrArg (Value.int .i64) (a5n (fun j x hj=>hn j x (by omega))).symm)
theorem a6F (I:IMap) (v:Value) (l:List ByteArray) (hv:RdS I v l) (f:FuncId) (cs:List Value) (p:ByteArray→Bool) (hp:∀x∈l,∀vs,Enc.rd I vs x→FnV Tryz.prog f ([Value.string x]++cs).toArray I (.bool (p x))) :
    FnV Tryz.prog 128 #[v,.func (.func f) #[] cs.toArray] I (.bool (l.any p)):=by
 refine enter Tryz.func128 Tryz.call128 rfl Tryz.ntmps128 rfl (fun w0=>?_);refine go 10 ?_;refine a0a (a8H I v l hv f cs p hp) rfl rfl ?_;refine go 5 ?_;refine a0x rfl rfl ?_;exact q_v (congrArg Value.bool (a8T p l))
theorem b3k (I:IMap) (v:Value) (l:List ByteArray) (hv:RdS I v l) (s:ByteArray) :
    FnV Tryz.prog 159 #[v,.string s] I (.int .i64 (a6s (fun x=>decide (s=x)) l)):=by
 obtain⟨A,c,rfl,hA,hc,hm⟩:=hv;refine enter Tryz.func159 Tryz.call159 rfl Tryz.ntmps159 rfl (fun w0=>?_);refine go 14 ?_
 refine a0L (α:=Nat) 0 (fun i=>I)
  (fun i=>[(0,.slice A l.length c),(1,.string s),(7,.int .i64 (l.length:Int)),(8,.int .i64 (i:Int))])
  (fun i=>[])
  (fun i=>i≤l.length∧∀j x,j<i→l[j]? = some x→(fun x=>decide (s=x)) x=false)
  (fun i=>l.length-i) ⟨Nat.zero_le _,fun j x hj=>absurd hj (Nat.not_lt_zero j)⟩ rfl sb rfl ?_
 intro i ⟨hi,hn⟩;refine go 6 ?_;refine cb rfl (fun h9 p9=>?_) (fun h9 p9=>?_)
 ·have hlt:i<l.length:=by omega
  refine go 15 ?_;obtain⟨b14,o14,w14,e14,c14,r14⟩:=RdA.at_ hA (i:=i) hlt;obtain rfl:=r14;refine o_v rfl (a0n he rfl rfl e14 (i) (by omega) hlt) ?_;refine o_v rfl (a0W he rfl (c14 0 _ rfl)) ?_;refine go 3 ?_;refine cb rfl (fun h16 p16=>?_) (fun h16 p16=>?_)
  ·refine go 12 ?_;refine a0x rfl rfl ?_;exact q_v (congrArg (Value.int .i64) (a4z (p:=fun x=>decide (s=x)) hlt h16 hn).symm)
  ·refine go 8 ?_;exact a0J (i+1) ⟨by omega,a5E (p:=fun x=>decide (s=x)) hn hlt h16⟩ (by omega) rfl sb rfl
 ·refine go 11 ?_;refine a0x rfl rfl ?_;exact q_v (congrArg (Value.int .i64) (a5n (p:=fun x=>decide (s=x)) (fun j x hj=>hn j x (by omega))).symm)
theorem a4D (I:IMap) (v:Value) (l:List ByteArray) (hv:RdS I v l) (s:ByteArray) :
    FnV Tryz.prog 95 #[v,.string s] I (.bool (decide (s∈l))):=by
 refine enter Tryz.func95 Tryz.call95 rfl Tryz.ntmps95 rfl (fun w0=>?_);refine go 10 ?_;refine a0a (b3k I v l hv s) rfl rfl ?_;refine go 5 ?_;refine a0x rfl rfl ?_;exact q_v (congrArg Value.bool ((a8T _ l).trans (c5V s l)))
theorem c3D (I:IMap) (k:Kind) (vs:List Value) (h:Enc.rd I vs k) :
    FnV Tryz.prog 218 #[.agg vs.toArray] I (.string k.name):=by
 obtain⟨ss,rfl,hs⟩:=h;refine enter Tryz.func218 Tryz.call218 rfl Tryz.ntmps218 rfl (fun w0=>?_);refine go 3 ?_;refine a0B _ rfl rfl rfl (fun g1=>?_);refine go 11 ?_;refine a0x rfl rfl ?_;exact q_v rfl
theorem c4F (I:IMap) (k:Slot) (vs:List Value) (h:Enc.rd I vs k) :
    FnV Tryz.prog 268 #[.agg vs.toArray] I (.string k.name):=by
 obtain⟨ss,rfl,hs⟩:=h;refine enter Tryz.func268 Tryz.call268 rfl Tryz.ntmps268 rfl (fun w0=>?_);refine go 3 ?_;refine a0B _ rfl rfl rfl (fun g1=>?_);refine go 11 ?_;refine a0x rfl rfl ?_;exact q_v rfl
theorem b5c (I:IMap) (k:Kind) (vs:List Value) (h:Enc.rd I vs k) (fn:FuncId) (nm:Kind→ByteArray) (s:ByteArray) (hn:FnV Tryz.prog fn #[.agg vs.toArray] I (.string (nm k))) (g1 g2:Nat) (c1:ICells I g1 0 [.func (.func fn) #[] #[]]) (c2:ICells I g2 0 [.string s]) :
    FnV Tryz.prog 266 #[.agg vs.toArray,.pointer (some ⟨g1,0,none⟩),.pointer (some ⟨g2,0,none⟩)] I (.bool (decide (nm k=s))):=by
 have hl:=Enc.len h
 refine enter Tryz.func266 Tryz.call266 rfl Tryz.ntmps266 rfl (fun w0=>?_);refine go 3 ?_;refine a0B _ rfl rfl rfl (fun g3=>?_);refine go 4 ?_;refine a1h T.mixed ?_;refine a0f 0 rfl rfl (by kernel_rfl) rfl (.refl _) rfl (a0W he rfl (c1 0 _ rfl)) ?_;refine a0f 1 rfl rfl (by kernel_rfl) rfl (.refl _) rfl (a4d m0 he rfl hl) ?_;refine a0f 3 rfl rfl (by kernel_rfl) rfl (.refl _) rfl (a0W he rfl (c2 0 _ rfl)) ?_;refine a0i 2 (by kernel_rfl) rfl ?_;refine a0a (hn) rfl rfl ?_;refine a0r (fun _ m=>m.keeps (.refl _)) ?_;refine a0f 4 rfl rfl (by kernel_rfl) rfl (.refl _) rfl (b4r rfl rfl) ?_;refine a0f 5 rfl rfl (by kernel_rfl) rfl (.refl _) rfl (a0I rfl) ?_;refine a0w (by kernel_rfl) ?_;refine go 2 ?_;refine a0x rfl rfl ?_;exact q_v rfl
theorem b8j (I:IMap) (v:Value) (l:List Kind) (hv:RdS I v l) (fn:FuncId) (nm:Kind→ByteArray) (s:ByteArray) (hn:∀J,ILe I J→∀x∈l,∀vs,Enc.rd J vs x→FnV Tryz.prog fn #[.agg vs.toArray] J (.string (nm x))) :
    FnV Tryz.prog 217 #[v,.func (.func fn) #[] #[],.string s] I (.int .i64 (a6s (fun x=>decide (nm x=s)) l)):=by
 refine enter Tryz.func217 Tryz.call217 rfl Tryz.ntmps217 rfl (fun w0=>?_);refine go 3 ?_;refine a0B _ rfl rfl rfl (fun g4=>?_);refine go 1 ?_;refine a0B _ rfl rfl rfl (fun g5=>?_);refine go 6 ?_;refine a0g ?_;refine a2f (fun Ig4 jg4 cg4=>?_);refine a2f (fun Ig5 jg5 cg5=>?_);refine o_v rfl (a1a rfl rfl) ?_;refine go 1 ?_;refine a0a (b0v _ v l (hv.le (jg4.trans jg5)) _ [.pointer (some ⟨g4,0,none⟩),.pointer (some ⟨g5,0,none⟩)] (fun x=>decide (nm x=s)) (fun x hx vs hr=>b5c _ x vs hr fn nm s (hn _ (jg4.trans jg5) x hx vs hr) g4 g5 (cg4.le jg5) cg5)) rfl rfl ?_;refine go 4 ?_;refine a0x rfl rfl ?_;exact a8c rfl
theorem b5d (I:IMap) (k:Slot) (vs:List Value) (h:Enc.rd I vs k) (fn:FuncId) (nm:Slot→ByteArray) (s:ByteArray) (hn:FnV Tryz.prog fn #[.agg vs.toArray] I (.string (nm k))) (g1 g2:Nat) (c1:ICells I g1 0 [.func (.func fn) #[] #[]]) (c2:ICells I g2 0 [.string s]) :
    FnV Tryz.prog 320 #[.agg vs.toArray,.pointer (some ⟨g1,0,none⟩),.pointer (some ⟨g2,0,none⟩)] I (.bool (decide (nm k=s))):=by
 have hl:=Enc.len h
 refine enter Tryz.func320 Tryz.call320 rfl Tryz.ntmps320 rfl (fun w0=>?_);refine go 3 ?_;refine a0B _ rfl rfl rfl (fun g3=>?_);refine go 4 ?_;refine a1h T.mixed ?_;refine a0f 0 rfl rfl (by kernel_rfl) rfl (.refl _) rfl (a0W he rfl (c1 0 _ rfl)) ?_;refine a0f 1 rfl rfl (by kernel_rfl) rfl (.refl _) rfl (a4d m0 he rfl hl) ?_;refine a0f 3 rfl rfl (by kernel_rfl) rfl (.refl _) rfl (a0W he rfl (c2 0 _ rfl)) ?_;refine a0i 2 (by kernel_rfl) rfl ?_;refine a0a (hn) rfl rfl ?_;refine a0r (fun _ m=>m.keeps (.refl _)) ?_;refine a0f 4 rfl rfl (by kernel_rfl) rfl (.refl _) rfl (b4r rfl rfl) ?_;refine a0f 5 rfl rfl (by kernel_rfl) rfl (.refl _) rfl (a0I rfl) ?_;refine a0w (by kernel_rfl) ?_;refine go 2 ?_;refine a0x rfl rfl ?_;exact q_v rfl
theorem b8k (I:IMap) (v:Value) (l:List Slot) (hv:RdS I v l) (fn:FuncId) (nm:Slot→ByteArray) (s:ByteArray) (hn:∀J,ILe I J→∀x∈l,∀vs,Enc.rd J vs x→FnV Tryz.prog fn #[.agg vs.toArray] J (.string (nm x))) :
    FnV Tryz.prog 267 #[v,.func (.func fn) #[] #[],.string s] I (.int .i64 (a6s (fun x=>decide (nm x=s)) l)):=by
 refine enter Tryz.func267 Tryz.call267 rfl Tryz.ntmps267 rfl (fun w0=>?_);refine go 3 ?_;refine a0B _ rfl rfl rfl (fun g4=>?_);refine go 1 ?_;refine a0B _ rfl rfl rfl (fun g5=>?_);refine go 6 ?_;refine a0g ?_;refine a2f (fun Ig4 jg4 cg4=>?_);refine a2f (fun Ig5 jg5 cg5=>?_);refine o_v rfl (a1a rfl rfl) ?_;refine go 1 ?_;refine a0a (b0x _ v l (hv.le (jg4.trans jg5)) _ [.pointer (some ⟨g4,0,none⟩),.pointer (some ⟨g5,0,none⟩)] (fun x=>decide (nm x=s)) (fun x hx vs hr=>b5d _ x vs hr fn nm s (hn _ (jg4.trans jg5) x hx vs hr) g4 g5 (cg4.le jg5) cg5)) rfl rfl ?_;refine go 4 ?_;refine a0x rfl rfl ?_;exact a8c rfl
theorem b1R (I:IMap) (v:Value) (l:List Kind) (hv:RdS I v l) (s:ByteArray) :
    FnE Tryz.prog 149 #[.agg #[v],.string s] I (KindIs I (a7h l s)):=by
 refine enter Tryz.func149 Tryz.call149 rfl Tryz.ntmps149 rfl (fun w0=>?_);refine go 3 ?_;refine a0B _ rfl rfl rfl (fun g2=>?_);refine go 1 ?_;refine a0h he rfl (fun g4=>?_);refine go 9 ?_;refine a0a (b8j I _ l hv _ Kind.name s (fun J hJ x _ vs hr=>c3D J x vs hr)) rfl rfl ?_;refine go 10 ?_;refine cb rfl (fun h12 p12=>?_) (fun h12 p12=>?_)
 ·have hN:=((a5V (fun x=>decide (Kind.name x=s)) l).resolve_right (by rintro⟨i,hi,e,_⟩;omega)).2
  refine go 3 ?_;refine a0l rfl (a0A (pl:=[(0,1),(1,1),(2,1)]) he he rfl rfl) ?_;refine go 1 ?_;refine a0m _ he rfl rfl rfl rfl rfl rfl ?_;refine go 5 ?_;refine a2D rfl ⟨_,_,_,rfl,m0,.inr ⟨_,he,rfl,rfl⟩⟩ rfl ?_;exact q_e (KindIs.none hN)
 ·obtain⟨i,hi,ei,hF⟩:=(a5V (fun x=>decide (Kind.name x=s)) l).resolve_left (fun h=>by omega);refine go 7 ?_;obtain⟨A,c0,rfl,hA,hc,hm⟩:=hv;obtain⟨b17,o17,w17,e17,c17,r17⟩:=RdA.at_ hA (i:=i) hi;obtain⟨q17,rfl,B17,d17,rfl,hB17,hd17,hm17⟩:=r17;refine o_v rfl (a0n he rfl rfl e17 (i) ei hi) ?_;refine o_v rfl (a0H he rfl c17 rfl) ?_;refine go 1 ?_;refine a0m _ he rfl rfl rfl rfl rfl rfl ?_;refine go 4 ?_;refine a2D rfl ⟨_,_,_,rfl,m0,.inr ⟨_,he,rfl,rfl⟩⟩ rfl ?_;exact q_e (KindIs.of hF ⟨_,rfl,B17,d17,rfl,hB17,hd17,hm17⟩)
theorem c6n (I:IMap) (v:Value) (l:List Kind) (hv:RdS I v l) (k s:ByteArray) :
    FnE Tryz.prog 220 #[.agg #[v],.string k,.string s] I (SlotIs I (c4E l k s)):=by
 refine enter Tryz.func220 Tryz.call220 rfl Tryz.ntmps220 rfl (fun w0=>?_);refine go 3 ?_;refine a0B _ rfl rfl rfl (fun g3=>?_);refine go 1 ?_;refine a0h he rfl (fun g6=>?_);refine go 8 ?_;refine a5f (b1R I _ l hv k) rfl rfl (fun v14 q14=>?_);obtain⟨vs,rfl,ss,rfl,hsl⟩:=q14;refine go 4 ?_;refine a0h he rfl (fun g8=>?_);refine go 1 ?_;refine a0m _ he rfl rfl rfl rfl rfl (by simp[Kind.cells,hsl.one];exact⟨rfl,rfl⟩) ?_;refine go 9 ?_;refine a0a (b8k I _ _ hsl _ Slot.name s (fun J hJ x _ vs hr=>c4F J x vs hr)) rfl rfl ?_;refine go 10 ?_;refine cb rfl (fun h22 p22=>?_) (fun h22 p22=>?_)
 ·have hN:=((a5V (fun x=>decide (Slot.name x=s)) ((a7h l k).getD b0G).slots).resolve_right (by rintro⟨i,hi,e,_⟩;omega)).2
  refine go 3 ?_;refine a0l rfl (a0A (pl:=[(0,1),(1,1),(2,1)]) he he rfl rfl) ?_;refine go 1 ?_;refine a0g ?_;refine a0m _ he rfl rfl rfl rfl rfl rfl ?_;refine go 5 ?_;refine a2D rfl ⟨_,_,_,rfl,m0,.inr ⟨_,he,rfl,rfl⟩⟩ rfl ?_;exact q_e (SlotIs.none hN)
 ·obtain⟨i,hi,ei,hF⟩:=(a5V (fun x=>decide (Slot.name x=s)) ((a7h l k).getD b0G).slots).resolve_left (fun h=>by omega);obtain⟨A,c0,rfl,hA,hc,hm⟩:=hsl;refine go 7 ?_;obtain⟨b27,o27,w27,e27,c27,r27⟩:=RdA.at_ hA (i:=i) hi;obtain⟨q27,rfl,B27,d27,rfl,hB27,hd27,hm27⟩:=r27;refine o_v rfl (a0n he rfl rfl e27 (i) ei hi) ?_;refine o_v rfl (a0H he rfl c27 rfl) ?_;refine go 1 ?_;refine a0g ?_;refine a0m _ he rfl rfl rfl rfl rfl rfl ?_;refine go 4 ?_;refine a2D rfl ⟨_,_,_,rfl,m0,.inr ⟨_,he,rfl,rfl⟩⟩ rfl ?_;exact q_e (SlotIs.of hF ⟨_,rfl,B27,d27,rfl,hB27,hd27,hm27⟩)
theorem b5X (I:IMap) (v:Value) (l:List Kind) (hv:RdS I v l) (k s p:ByteArray) :
    FnV Tryz.prog 152 #[.agg #[v],.string k,.string s,.string p] I (.bool (a6z l k s p)):=by
 refine enter Tryz.func152 Tryz.call152 rfl Tryz.ntmps152 rfl (fun w0=>?_);refine go 3 ?_;refine a0B _ rfl rfl rfl (fun g4=>?_);refine go 9 ?_;refine a5f (c6n I _ l hv k s) rfl rfl (fun v15 q15=>?_);obtain⟨vs,rfl,ss,rfl,hsl⟩:=q15;refine go 4 ?_;refine a0h he rfl (fun g9=>?_);refine go 1 ?_;refine a0m _ he rfl rfl rfl rfl rfl (by simp[Slot.cells,hsl.one];exact⟨rfl,rfl⟩) ?_;refine go 7 ?_;refine sxb 19 rfl (fun h19 p19=>?_) (fun h19 p19=>?_)
 ·refine go 4 ?_;refine a0y rfl rfl h19 (a0a (a4D I _ _ hsl p) rfl rfl ?_);refine go 5 ?_;refine a0x rfl rfl ?_;exact q_v (congrArg Value.bool (by revert h19;unfold a6z;cases c4E l k s<;>simp))
 ·refine go 9 ?_;refine a0x rfl rfl ?_;exact q_v (congrArg Value.bool (by revert h19;unfold a6z;cases c4E l k s<;>simp))
theorem a8N (I:IMap) (v:Value) (l:List Kind) (hv:RdS I v l) (hs:SmC l) :
    FnV Tryz.prog 85 #[.agg #[v]] I (.bool (a0Y l)):=by
 obtain⟨A,c0,rfl,hA,hc,hm⟩:=hv;refine enter Tryz.func85 Tryz.call85 rfl Tryz.ntmps85 rfl (fun w0=>?_);refine go 3 ?_;refine a0B _ rfl rfl rfl (fun g1=>?_);refine go 6 ?_;refine a7v (Value.string) he rfl (fun r14=>?_);refine go 13 ?_
 refine a0L (α:=Nat) 0 (fun i=>I)
  (fun i=>[(1,.pointer (some ⟨g1,0,none⟩)),(3,.map (some r14)),(16,.slice A l.length c0),(17,.int .i64 (l.length:Int)),(18,.int .i64 (i:Int))])
  (fun i=>[.mp r14 (a2t Value.string (a3d Kind.name (fun k=>Value.bool (!k.vehicle)) (l.take i))),.blk g1 24 [.slice A l.length c0]])
  (fun i=>i≤l.length∧a3A a4r l i=true)
  (fun i=>l.length-i) ⟨Nat.zero_le _,rfl⟩ rfl sb rfl ?_
 intro i ⟨hi,hn⟩;refine go 6 ?_;refine cb rfl (fun h19 p19=>?_) (fun h19 p19=>?_)
 ·have hlt:i<l.length:=by omega
  refine go 6 ?_;obtain⟨b20,o20,w20,e20,c20,r20⟩:=RdA.at_ hA (i:=i) hlt;obtain⟨q20,rfl,B20,d20,rfl,hB20,hd20,hm20⟩:=r20;refine o_v rfl (a0n he rfl rfl e20 (i) (by omega) hlt) ?_;refine o_v rfl (a0H he rfl c20 rfl) ?_;refine go 1 ?_;refine a0h he rfl (fun g5=>?_);refine go 1 ?_;refine a0m _ he rfl rfl rfl rfl rfl rfl ?_;refine go 8 ?_;refine o_v rfl (a8A m1 (a0R he) he he (l[i].name) rfl rfl rfl (c3E _ _ _ _)) ?_;refine go 8 ?_;refine a2z (I':=I) (L':=[(1,.pointer (some ⟨g1,0,none⟩)),(3,.map (some r14)),(16,.slice A l.length c0),(17,.int .i64 (l.length:Int)),(18,.int .i64 (i:Int)),(5,.pointer (some ⟨g5,0,none⟩)),(41,.bool ((hit Kind.name (l.take i) l[i].name || !a2v l[i].name)||decide ((12:Int)<(l[i].slots.length:Nat))))]) (H':=[.blk g5 168 (l[i].cells (.slice B20 l[i].slots.length d20)),.mp r14 (a2t Value.string (a3d Kind.name (fun k=>Value.bool (!k.vehicle)) (l.take i))),.blk g1 24 [.slice A l.length c0]]) ?_ ?_
  ·refine go 3 ?_;refine sxb 30 rfl (fun h30 p30=>?_) (fun h30 p30=>?_)
   ·refine go 13 ?_;exact a0E ⟨rfl,rfl,rfl,rfl,rfl,rfl,(congrArg (fun b=>some (Value.bool b)) (by simp only[h19,h30,bS])),trivial⟩ rfl rfl
   ·refine go 3 ?_;refine a0y rfl rfl h30 (a0a (a7Y _ _ (hs _ (List.getElem_mem hlt)).1) rfl rfl ?_);refine go 3 ?_;refine sxb 36 rfl (fun h36 p36=>?_) (fun h36 p36=>?_)
    ·refine go 7 ?_;exact a0E ⟨rfl,rfl,rfl,rfl,rfl,rfl,(congrArg (fun b=>some (Value.bool b)) (by simp only[h19,h30,h36,bS])),trivial⟩ rfl rfl
    ·refine go 7 ?_;exact a0E ⟨rfl,rfl,rfl,rfl,rfl,rfl,(congrArg (fun b=>some (Value.bool b)) (by simp only[h19,h30,h36,bS])),trivial⟩ rfl rfl
  ·refine cb rfl (fun h41 p41=>?_) (fun h41 p41=>?_)
   ·refine go 12 ?_;refine a0x rfl rfl ?_;exact q_v (congrArg Value.bool (by simp only[a0Y,a1A hlt (show a4r (l.take i) l[i]=false by simp only[a4r,h41];rfl),bS]))
   ·refine go 5 ?_;refine a7v (Value.string) he rfl (fun r42=>?_);refine go 13 ?_
    refine a0L (α:=Nat) 0 (fun j=>I)
     (fun j=>[(1,.pointer (some ⟨g1,0,none⟩)),(3,.map (some r14)),(16,.slice A l.length c0),(17,.int .i64 (l.length:Int)),(18,.int .i64 (i:Int)),(5,.pointer (some ⟨g5,0,none⟩)),(8,.map (some r42)),(44,.slice B20 l[i].slots.length d20),(45,.int .i64 (l[i].slots.length:Int)),(46,.int .i64 (j:Int))])
     (fun j=>[.mp r42 (a2t Value.string (a3d Slot.name (fun _=>Value.bool true) (l[i].slots.take j))),.blk g5 168 (l[i].cells (.slice B20 l[i].slots.length d20)),.mp r14 (a2t Value.string (a3d Kind.name (fun k=>Value.bool (!k.vehicle)) (l.take i))),.blk g1 24 [.slice A l.length c0]])
     (fun j=>j≤l[i].slots.length∧a3A (a5J (l.take i)) l[i].slots j=true)
     (fun j=>l[i].slots.length-j) ⟨Nat.zero_le _,rfl⟩ rfl sb rfl ?_
    intro j ⟨hj,hq⟩;refine go 6 ?_;refine cb rfl (fun h47 p47=>?_) (fun h47 p47=>?_)
    ·have hltj:j<l[i].slots.length:=by omega
     refine go 6 ?_;obtain⟨b48,o48,w48,e48,c48,r48⟩:=RdA.at_ hB20 (i:=j) hltj;obtain⟨q48,rfl,B48,d48,rfl,hB48,hd48,hm48⟩:=r48;refine o_v rfl (a0n he rfl rfl e48 (j) (by omega) hltj) ?_;refine o_v rfl (a0H he rfl c48 rfl) ?_;refine go 1 ?_;refine a0h he rfl (fun g10=>?_);refine go 1 ?_;refine a0m _ he rfl rfl rfl rfl rfl rfl ?_;refine go 4 ?_;refine a2z (I':=I) (L':=[(1,.pointer (some ⟨g1,0,none⟩)),(3,.map (some r14)),(16,.slice A l.length c0),(17,.int .i64 (l.length:Int)),(18,.int .i64 (i:Int)),(5,.pointer (some ⟨g5,0,none⟩)),(8,.map (some r42)),(44,.slice B20 l[i].slots.length d20),(45,.int .i64 (l[i].slots.length:Int)),(46,.int .i64 (j:Int)),(10,.pointer (some ⟨g10,0,none⟩)),(72,.bool (((hit Slot.name (l[i].slots.take j) l[i].slots[j].name || !a2v l[i].slots[j].name)||decide (l[i].slots[j].normal<1))||decide ((l[i].slots[j].kinds.length:Int)<l[i].slots[j].normal)))]) (H':=[.blk g10 170 (l[i].slots[j].cells (.slice B48 l[i].slots[j].kinds.length d48)),.mp r42 (a2t Value.string (a3d Slot.name (fun _=>Value.bool true) (l[i].slots.take j))),.blk g5 168 (l[i].cells (.slice B20 l[i].slots.length d20)),.mp r14 (a2t Value.string (a3d Kind.name (fun k=>Value.bool (!k.vehicle)) (l.take i))),.blk g1 24 [.slice A l.length c0]]) ?_ ?_
     ·refine go 4 ?_;refine o_v rfl (c1Z m1 (a0R he) he he (l[i].slots[j].name) rfl rfl (a8V _ _ _)) ?_;refine go 1 ?_;refine sxb 54 rfl (fun h54 p54=>?_) (fun h54 p54=>?_)
      ·refine go 20 ?_;exact a0E ⟨rfl,rfl,rfl,rfl,rfl,rfl,rfl,rfl,rfl,rfl,rfl,(congrArg (fun b=>some (Value.bool b)) (by simp only[h47,h54,bS])),trivial⟩ rfl rfl
      ·refine go 3 ?_;refine a0y rfl rfl h54 (a0a (a7Y _ _ ((hs _ (List.getElem_mem hlt)).2 _ (List.getElem_mem hltj)).1) rfl rfl ?_);refine go 3 ?_;refine sxb 60 rfl (fun h60 p60=>?_) (fun h60 p60=>?_)
       ·refine go 14 ?_;exact a0E ⟨rfl,rfl,rfl,rfl,rfl,rfl,rfl,rfl,rfl,rfl,rfl,(congrArg (fun b=>some (Value.bool b)) (by simp only[h47,h54,h60,bS])),trivial⟩ rfl rfl
       ·refine go 5 ?_;refine sxb 65 rfl (fun h65 p65=>?_) (fun h65 p65=>?_)
        ·refine go 9 ?_;exact a0E ⟨rfl,rfl,rfl,rfl,rfl,rfl,rfl,rfl,rfl,rfl,rfl,(congrArg (fun b=>some (Value.bool b)) (by simp only[h47,h54,h60,h65,bS])),trivial⟩ rfl rfl
        ·refine go 9 ?_;exact a0E ⟨rfl,rfl,rfl,rfl,rfl,rfl,rfl,rfl,rfl,rfl,rfl,(congrArg (fun b=>some (Value.bool b)) (by simp only[h47,h54,h60,h65,bS])),trivial⟩ rfl rfl
     ·refine cb rfl (fun h72 p72=>?_) (fun h72 p72=>?_)
      ·refine go 17 ?_;refine a0x rfl rfl ?_;exact q_v (congrArg Value.bool (by simp only[a0Y,a1A hlt (show a4r (l.take i) l[i]=false by simp only[a4r,a1A hltj (show a5J (l.take i) (l[i].slots.take j) l[i].slots[j]=false by simp only[a5J,h72];rfl),bS]),bS]))
      ·refine go 8 ?_
       have h72n:hit Slot.name (l[i].slots.take j) l[i].slots[j].name=false:=by revert h72;cases hit Slot.name (l[i].slots.take j) l[i].slots[j].name<;>simp
       refine a0g ?_;refine a4t (a3d Slot.name (fun _=>Value.bool true) (l[i].slots.take (j+1))) (a0R he) he (l[i].slots[j].name) rfl rfl rfl ((a9J Slot.name (fun _=>Value.bool true) (l[i].slots.take j) l[i].slots[j] (a7o h72n)).trans (by rw[a0q hltj])) ?_;refine go 5 ?_;refine a7v (Value.string) he rfl (fun r76=>?_);refine go 12 ?_;refine a0u ?_;refine a0b ?_
       refine a0L (α:=Nat) 0 (fun m=>I)
        (fun m=>[(1,.pointer (some ⟨g1,0,none⟩)),(3,.map (some r14)),(16,.slice A l.length c0),(17,.int .i64 (l.length:Int)),(18,.int .i64 (i:Int)),(5,.pointer (some ⟨g5,0,none⟩)),(8,.map (some r42)),(44,.slice B20 l[i].slots.length d20),(45,.int .i64 (l[i].slots.length:Int)),(46,.int .i64 (j:Int)),(10,.pointer (some ⟨g10,0,none⟩)),(11,.map (some r76)),(78,.slice B48 l[i].slots[j].kinds.length d48),(79,.int .i64 (l[i].slots[j].kinds.length:Int)),(80,.int .i64 (m:Int))])
        (fun m=>[.mp r76 (a2t Value.string (a3d _root_.id (fun _=>Value.bool true) (l[i].slots[j].kinds.take m))),.mp r42 (a2t Value.string (a3d Slot.name (fun _=>Value.bool true) (l[i].slots.take (j+1)))),.blk g5 168 (l[i].cells (.slice B20 l[i].slots.length d20)),.mp r14 (a2t Value.string (a3d Kind.name (fun k=>Value.bool (!k.vehicle)) (l.take i))),.blk g1 24 [.slice A l.length c0]])
        (fun m=>m≤l[i].slots[j].kinds.length∧a3A (b3q (l.take i)) l[i].slots[j].kinds m=true)
        (fun m=>l[i].slots[j].kinds.length-m) ⟨Nat.zero_le _,rfl⟩ rfl sb rfl ?_
       intro m ⟨hmm,hr⟩;refine go 6 ?_;refine cb rfl (fun h81 p81=>?_) (fun h81 p81=>?_)
       ·have hltm:m<l[i].slots[j].kinds.length:=by omega
        refine go 6 ?_;obtain⟨b82,o82,w82,e82,c82,r82⟩:=RdA.at_ hB48 (i:=m) hltm;obtain rfl:=r82;refine o_v rfl (a0n he rfl rfl e82 (m) (by omega) hltm) ?_;refine o_v rfl (a0W he rfl (c82 0 _ rfl)) ?_;refine go 5 ?_;refine a2z (I':=I) (L':=[(1,.pointer (some ⟨g1,0,none⟩)),(3,.map (some r14)),(16,.slice A l.length c0),(17,.int .i64 (l.length:Int)),(18,.int .i64 (i:Int)),(5,.pointer (some ⟨g5,0,none⟩)),(8,.map (some r42)),(44,.slice B20 l[i].slots.length d20),(45,.int .i64 (l[i].slots.length:Int)),(46,.int .i64 (j:Int)),(10,.pointer (some ⟨g10,0,none⟩)),(11,.map (some r76)),(78,.slice B48 l[i].slots[j].kinds.length d48),(79,.int .i64 (l[i].slots[j].kinds.length:Int)),(80,.int .i64 (m:Int)),(13,.string l[i].slots[j].kinds[m]),(92,.bool (hit _root_.id (l[i].slots[j].kinds.take m) l[i].slots[j].kinds[m] || !d1d Kind.name (fun k=>!k.vehicle) (l.take i) l[i].slots[j].kinds[m]))]) (H':=[.mp r76 (a2t Value.string (a3d _root_.id (fun _=>Value.bool true) (l[i].slots[j].kinds.take m))),.mp r42 (a2t Value.string (a3d Slot.name (fun _=>Value.bool true) (l[i].slots.take (j+1)))),.blk g5 168 (l[i].cells (.slice B20 l[i].slots.length d20)),.mp r14 (a2t Value.string (a3d Kind.name (fun k=>Value.bool (!k.vehicle)) (l.take i))),.blk g1 24 [.slice A l.length c0]]) ?_ ?_
        ·refine go 3 ?_;refine o_v rfl (c1Z m0 (a0R he) he he (l[i].slots[j].kinds[m]) rfl rfl (a8V _root_.id _ _)) ?_;refine go 1 ?_;refine sxb 87 rfl (fun h87 p87=>?_) (fun h87 p87=>?_)
         ·refine go 7 ?_;exact a0E ⟨rfl,rfl,rfl,rfl,rfl,rfl,rfl,rfl,rfl,rfl,rfl,rfl,rfl,rfl,rfl,rfl,(congrArg (fun b=>some (Value.bool b)) (by simp only[h81,h87,bS])),trivial⟩ rfl rfl
         ·refine go 2 ?_;refine a0v (a0y rfl rfl h87 (a0l rfl (c1Z m3 (a0R he) he he (l[i].slots[j].kinds[m]) rfl rfl (c7n Kind.name (fun k=>!k.vehicle) _ _)) ?_));refine go 4 ?_;exact a0E ⟨rfl,rfl,rfl,rfl,rfl,rfl,rfl,rfl,rfl,rfl,rfl,rfl,rfl,rfl,rfl,rfl,(congrArg (fun b=>some (Value.bool b)) (by simp only[h81,h87,bS])),trivial⟩ rfl rfl
        ·refine cb rfl (fun h92 p92=>?_) (fun h92 p92=>?_)
         ·refine go 21 ?_;refine a0x rfl rfl ?_;exact q_v (congrArg Value.bool (by simp only[a0Y,a1A hlt (show a4r (l.take i) l[i]=false by simp only[a4r,a1A hltj (show a5J (l.take i) (l[i].slots.take j) l[i].slots[j]=false by simp only[a5J,a1A hltm (show b3q (l.take i) (l[i].slots[j].kinds.take m) l[i].slots[j].kinds[m]=false by revert h92;simp only[b3q];cases hit _root_.id (l[i].slots[j].kinds.take m) l[i].slots[j].kinds[m]<;>simp),bS]),bS]),bS]))
         ·refine go 6 ?_
          have h92n:hit _root_.id (l[i].slots[j].kinds.take m) l[i].slots[j].kinds[m]=false:=by revert h92;cases hit _root_.id (l[i].slots[j].kinds.take m) l[i].slots[j].kinds[m]<;>simp
          refine a4t (a3d _root_.id (fun _=>Value.bool true) (l[i].slots[j].kinds.take (m+1))) (a0R he) he (l[i].slots[j].kinds[m]) rfl rfl rfl ((a9J _root_.id (fun _=>Value.bool true) (l[i].slots[j].kinds.take m) l[i].slots[j].kinds[m] (a7o h92n)).trans (by rw[a0q hltm])) ?_;refine go 8 ?_;exact a0J (m+1) ⟨by omega,a1M hr hltm (by revert h92;simp only[b3q];cases hit _root_.id (l[i].slots[j].kinds.take m) l[i].slots[j].kinds[m]<;>simp)⟩ (by omega) rfl sb rfl
       ·refine go 11 ?_;refine a0b ?_;exact a0J (j+1) ⟨by omega,a1M hq hltj (by simp only[a5J,h72,(show m=l[i].slots[j].kinds.length by omega)▸hr];rfl)⟩ (by omega) rfl sb rfl
    ·refine go 13 ?_
     have h41n:hit Kind.name (l.take i) l[i].name=false:=by revert h41;cases hit Kind.name (l.take i) l[i].name<;>simp
     refine a0u ?_;refine a4t (a3d Kind.name (fun k=>Value.bool (!k.vehicle)) (l.take (i+1))) (a0R he) he (l[i].name) rfl rfl rfl ((a9J Kind.name (fun k=>Value.bool (!k.vehicle)) (l.take i) l[i] (a7o h41n)).trans (by rw[a0q hlt])) ?_;refine go 8 ?_;refine a0g ?_;refine a0b ?_;refine a0g ?_;refine a0b ?_;exact a0J (i+1) ⟨by omega,a1M hn hlt (by simp only[a4r,h41,(show j=l[i].slots.length by omega)▸hq];rfl)⟩ (by omega) rfl sb rfl
 ·refine go 15 ?_;refine a0x rfl rfl ?_
  have e:i=l.length:=(by omega)
  subst e;exact q_v (congrArg Value.bool (by simp only[a0Y,hn,bS]))
theorem d0v (I:IMap) (v:Value) (l:List Kind) (hv:RdS I v l) :
    FnV Tryz.prog 51 #[.agg #[v]] I (.bool (c3c l)):=by
 obtain⟨A,c0,rfl,hA,hc,hm⟩:=hv;refine enter Tryz.func51 Tryz.call51 rfl Tryz.ntmps51 rfl (fun w0=>?_);refine go 3 ?_;refine a0B _ rfl rfl rfl (fun g1=>?_);refine go 12 ?_;refine cb rfl (fun h10 p10=>?_) (fun h10 p10=>?_)
 ·refine go 7 ?_;refine a0x rfl rfl ?_;exact q_v (congrArg Value.bool (by simp only[c3c,h10];rfl))
 ·refine go 9 ?_
  refine a0L (α:=Nat) 0 (fun i=>I)
   (fun i=>[(1,.pointer (some ⟨g1,0,none⟩)),(3,.int .i64 (i:Int))])
   (fun i=>[.blk g1 24 [.slice A l.length c0]])
   (fun i=>i≤l.length∧a3A (fun _ k=>a3K k) l i=true)
   (fun i=>l.length-i) ⟨Nat.zero_le _,rfl⟩ rfl sb rfl ?_
  intro i ⟨hi,hn⟩;refine go 10 ?_;refine cb rfl (fun h15 p15=>?_) (fun h15 p15=>?_)
  ·have hlt:i<l.length:=by omega
   refine go 9 ?_;obtain⟨b21,o21,w21,e21,c21,r21⟩:=RdA.at_ hA (i:=i) hlt;obtain⟨q21,rfl,B21,d21,rfl,hB21,hd21,hm21⟩:=r21;refine o_v rfl (a0n he rfl rfl e21 (i) (by omega) hlt) ?_;refine o_v rfl (a0H he rfl c21 rfl) ?_;refine go 1 ?_;refine a0h he rfl (fun g4=>?_);refine go 1 ?_;refine a0m _ he rfl rfl rfl rfl rfl rfl ?_;refine go 4 ?_;refine a2z (I':=I) (L':=[(1,.pointer (some ⟨g1,0,none⟩)),(3,.int .i64 (i:Int)),(4,.pointer (some ⟨g4,0,none⟩)),(32,.bool (decide ((100:Int)<(l[i].name.size:Nat))||decide ((15:Int)<(l[i].slots.length:Nat))))]) (H':=[.blk g4 168 (l[i].cells (.slice B21 l[i].slots.length d21)),.blk g1 24 [.slice A l.length c0]]) ?_ ?_
   ·refine go 6 ?_;refine sxb 27 rfl (fun h27 p27=>?_) (fun h27 p27=>?_)
    ·refine go 7 ?_;exact a0E ⟨rfl,rfl,rfl,(congrArg (fun b=>some (Value.bool b)) (by simp only[h15,h27,bS])),trivial⟩ rfl rfl
    ·refine go 7 ?_;exact a0E ⟨rfl,rfl,rfl,(congrArg (fun b=>some (Value.bool b)) (by simp only[h15,h27,bS])),trivial⟩ rfl rfl
   ·refine cb rfl (fun h32 p32=>?_) (fun h32 p32=>?_)
    ·refine go 12 ?_;refine a0x rfl rfl ?_;exact q_v (congrArg Value.bool (by simp only[c3c,a1A (f:=fun _ k=>a3K k) hlt (show a3K l[i]=false by simp only[a3K,h32,bS]),bS]))
    ·refine go 8 ?_
     refine a0L (α:=Nat) 0 (fun j=>I)
      (fun j=>[(1,.pointer (some ⟨g1,0,none⟩)),(3,.int .i64 (i:Int)),(4,.pointer (some ⟨g4,0,none⟩)),(5,.int .i64 (j:Int))])
      (fun j=>[.blk g4 168 (l[i].cells (.slice B21 l[i].slots.length d21)),.blk g1 24 [.slice A l.length c0]])
      (fun j=>j≤l[i].slots.length∧a3A (fun _ s=>a5c s) l[i].slots j=true)
      (fun j=>l[i].slots.length-j) ⟨Nat.zero_le _,rfl⟩ rfl sb rfl ?_
     intro j ⟨hj,hq⟩;refine go 10 ?_;refine cb rfl (fun h37 p37=>?_) (fun h37 p37=>?_)
     ·have hltj:j<l[i].slots.length:=by omega
      refine go 6 ?_;refine a2z (I':=I) (L':=[(1,.pointer (some ⟨g1,0,none⟩)),(3,.int .i64 (i:Int)),(4,.pointer (some ⟨g4,0,none⟩)),(5,.int .i64 (j:Int)),(57,.bool (decide ((100:Int)<(l[i].slots[j].name.size:Nat))||decide ((15:Int)<(l[i].slots[j].kinds.length:Nat))))]) (H':=[.blk g4 168 (l[i].cells (.slice B21 l[i].slots.length d21)),.blk g1 24 [.slice A l.length c0]]) ?_ ?_
      ·refine go 4 ?_;obtain⟨b43,o43,w43,e43,c43,r43⟩:=RdA.at_ hB21 (i:=j) hltj;obtain⟨q43,rfl,B43,d43,rfl,hB43,hd43,hm43⟩:=r43;refine o_v rfl (a0n he rfl rfl e43 (j) (by omega) hltj) ?_;refine go 1 ?_;refine o_v rfl (a0W he rfl (c43 0 _ rfl)) ?_;refine go 3 ?_;refine sxb 48 rfl (fun h48 p48=>?_) (fun h48 p48=>?_)
       ·refine go 11 ?_;exact a0E ⟨rfl,rfl,rfl,rfl,(congrArg (fun b=>some (Value.bool b)) (by simp only[h37,h48,bS])),trivial⟩ rfl rfl
       ·refine go 3 ?_;obtain⟨b52,o52,w52,e52,c52,r52⟩:=RdA.at_ hB21 (i:=j) hltj;obtain⟨q52,rfl,B52,d52,rfl,hB52,hd52,hm52⟩:=r52;refine a0v (a0y rfl rfl h48 (a0l rfl (a0n he rfl rfl e52 (j) (by omega) hltj) ?_));refine go 1 ?_;refine a0v (a0y rfl rfl h48 (a0l rfl (a0W he rfl (c52 1 _ rfl)) ?_));refine go 5 ?_;exact a0E ⟨rfl,rfl,rfl,rfl,(congrArg (fun b=>some (Value.bool b)) (by simp only[h37,h48,bS])),trivial⟩ rfl rfl
      ·refine cb rfl (fun h57 p57=>?_) (fun h57 p57=>?_)
       ·refine go 16 ?_;refine a0x rfl rfl ?_;exact q_v (congrArg Value.bool (by simp only[c3c,a1A (f:=fun _ k=>a3K k) hlt (show a3K l[i]=false by simp only[a3K,a1A (f:=fun _ s=>a5c s) hltj (show a5c l[i].slots[j]=false by simp only[a5c,h57];rfl),bS]),bS]))
       ·refine go 8 ?_
        refine a0L (α:=Nat) 0 (fun m=>I)
         (fun m=>[(1,.pointer (some ⟨g1,0,none⟩)),(3,.int .i64 (i:Int)),(4,.pointer (some ⟨g4,0,none⟩)),(5,.int .i64 (j:Int)),(6,.int .i64 (m:Int))])
         (fun m=>[.blk g4 168 (l[i].cells (.slice B21 l[i].slots.length d21)),.blk g1 24 [.slice A l.length c0]])
         (fun m=>m≤l[i].slots[j].kinds.length∧a3A (fun _ k=>!decide ((100:Int)<((k:ByteArray).size:Nat))) l[i].slots[j].kinds m=true)
         (fun m=>l[i].slots[j].kinds.length-m) ⟨Nat.zero_le _,rfl⟩ rfl sb rfl ?_
        intro m ⟨hmm,hr⟩;refine go 7 ?_;obtain⟨b62,o62,w62,e62,c62,r62⟩:=RdA.at_ hB21 (i:=j) hltj;obtain⟨q62,rfl,B62,d62,rfl,hB62,hd62,hm62⟩:=r62;refine o_v rfl (a0n he rfl rfl e62 (j) (by omega) hltj) ?_;refine go 1 ?_;refine o_v rfl (a0W he rfl (c62 1 _ rfl)) ?_;refine go 4 ?_;refine cb rfl (fun h66 p66=>?_) (fun h66 p66=>?_)
        ·have hltm:m<l[i].slots[j].kinds.length:=by omega
         refine go 9 ?_;obtain⟨b72,o72,w72,e72,c72,r72⟩:=RdA.at_ hB21 (i:=j) hltj;obtain⟨q72,rfl,B72,d72,rfl,hB72,hd72,hm72⟩:=r72;refine o_v rfl (a0n he rfl rfl e72 (j) (by omega) hltj) ?_;refine go 1 ?_;refine o_v rfl (a0W he rfl (c72 1 _ rfl)) ?_;refine go 1 ?_;obtain⟨b76,o76,w76,e76,c76,r76⟩:=RdA.at_ hB72 (i:=m) hltm;obtain rfl:=r76;refine o_v rfl (a0n he rfl rfl e76 (m) (by omega) hltm) ?_;refine o_v rfl (a0W he rfl (c76 0 _ rfl)) ?_;refine go 4 ?_;refine cb rfl (fun h79 p79=>?_) (fun h79 p79=>?_)
         ·refine go 19 ?_;refine a0x rfl rfl ?_;exact q_v (congrArg Value.bool (by simp only[c3c,a1A (f:=fun _ k=>a3K k) hlt (show a3K l[i]=false by simp only[a3K,a1A (f:=fun _ s=>a5c s) hltj (show a5c l[i].slots[j]=false by simp only[a5c,a1A (f:=fun _ k=>!decide ((100:Int)<((k:ByteArray).size:Nat))) hltm (show (!decide ((100:Int)<((l[i].slots[j].kinds[m]).size:Nat)))=false by simp only[h79];rfl),bS]),bS]),bS]))
         ·refine go 9 ?_;exact a0J (m+1) ⟨by omega,a1M hr hltm (by simp only[h79];rfl)⟩ (by omega) rfl sb rfl
        ·refine go 12 ?_;exact a0J (j+1) ⟨by omega,a1M hq hltj (by simp only[a5c,h57,(show m=l[i].slots[j].kinds.length by omega)▸hr];rfl)⟩ (by omega) rfl sb rfl
     ·refine go 12 ?_;refine a0b ?_;exact a0J (i+1) ⟨by omega,a1M hn hlt (by simp only[a3K,h32,(show j=l[i].slots.length by omega)▸hq];rfl)⟩ (by omega) rfl sb rfl
  ·refine go 11 ?_;refine a0x rfl rfl ?_
   have e:i=l.length:=(by omega)
   subst e;exact q_v (congrArg Value.bool (by simp only[c3c,hn,h10];rfl))
end Go.Proofs.YtdapmfkbpnjkmaaGreat
namespace Go.Proofs.YtdapmfkbpnjkmaaGreat
open Go Go.Sx
set_option linter.all false
set_option maxRecDepth 20000
set_option maxHeartbeats 4000000
instance T.arr_199:Has (b7M Tryz.prog 199) (3,198,1):=⟨by kernel_rfl⟩
instance T.arr_264:Has (b7M Tryz.prog 264) (8,9,1):=⟨by kernel_rfl⟩
theorem T.eqg_96:Tryz.prog.eqGuardType Tryz.prog.depth 96=false:=by kernel_rfl
instance T.fld_44_0:Has (a3G Tryz.prog 44 0) (0,false,1):=⟨by kernel_rfl⟩
instance T.fld_44_1:Has (a3G Tryz.prog 44 1) (1,false,1):=⟨by kernel_rfl⟩
instance T.fld_94_0:Has (a3G Tryz.prog 94 0) (0,true,2):=⟨by kernel_rfl⟩
instance T.fld_94_1:Has (a3G Tryz.prog 94 1) (2,true,2):=⟨by kernel_rfl⟩
instance T.fld_94_2:Has (a3G Tryz.prog 94 2) (4,true,2):=⟨by kernel_rfl⟩
instance T.fld_96_0:Has (a3G Tryz.prog 96 0) (0,false,1):=⟨by kernel_rfl⟩
instance T.fld_96_1:Has (a3G Tryz.prog 96 1) (1,false,1):=⟨by kernel_rfl⟩
instance T.fld_96_2:Has (a3G Tryz.prog 96 2) (2,false,1):=⟨by kernel_rfl⟩
instance T.fld_96_3:Has (a3G Tryz.prog 96 3) (3,false,1):=⟨by kernel_rfl⟩
instance T.fld_96_4:Has (a3G Tryz.prog 96 4) (4,false,1):=⟨by kernel_rfl⟩
instance T.fld_96_5:Has (a3G Tryz.prog 96 5) (5,false,1):=⟨by kernel_rfl⟩
instance T.fld_96_6:Has (a3G Tryz.prog 96 6) (6,false,1):=⟨by kernel_rfl⟩
instance T.fld_96_7:Has (a3G Tryz.prog 96 7) (7,false,1):=⟨by kernel_rfl⟩
instance T.fld_96_8:Has (a3G Tryz.prog 96 8) (8,true,6):=⟨by kernel_rfl⟩
instance T.pl_94:Has (plK Tryz.prog 94) [(0,2),(2,2),(4,2)]:=⟨by kernel_rfl⟩
instance T.pl_96:Has (plK Tryz.prog 96) [(0,1),(1,1),(2,1),(3,1),(4,1),(5,1),(6,1),(7,1),(8,6)]:=⟨by kernel_rfl⟩
instance T.ty_198:Has (tyK Tryz.prog 198) (false,1):=⟨by kernel_rfl⟩
instance T.ty_199:Has (tyK Tryz.prog 199) (true,3):=⟨by kernel_rfl⟩
instance T.ty_264:Has (tyK Tryz.prog 264) (true,8):=⟨by kernel_rfl⟩
instance T.ty_94:Has (tyK Tryz.prog 94) (true,6):=⟨by kernel_rfl⟩
instance T.zero_199:Has (a1Z Tryz.prog 199) [.pointer none,.pointer none,.pointer none]:=⟨by kernel_rfl⟩
instance T.zero_264:Has (a1Z Tryz.prog 264) [.string ⟨#[]⟩,.string ⟨#[]⟩,.string ⟨#[]⟩,.string ⟨#[]⟩,.string ⟨#[]⟩,.string ⟨#[]⟩,.string ⟨#[]⟩,.string ⟨#[]⟩]:=⟨by kernel_rfl⟩
instance T.zero_94:Has (a1Z Tryz.prog 94) [.int .i64 0,.int .i64 0,.int .i64 0,.int .i64 0,.int .i64 0,.int .i64 0]:=⟨by kernel_rfl⟩
instance T.zero_96:Has (a1Z Tryz.prog 96) [.int .i64 0,.int .i64 0,.string ⟨#[]⟩,.string ⟨#[]⟩,.string ⟨#[]⟩,.string ⟨#[]⟩,.string ⟨#[]⟩,.string ⟨#[]⟩,.int .i64 0,.int .i64 0,.int .i64 0,.int .i64 0,.int .i64 0,.int .i64 0]:=⟨by kernel_rfl⟩
theorem a9w (a b:Ivl):eqV Tryz.prog 9 44 (.agg a.cells.toArray) (.agg b.cells.toArray)=some (decide (a=b)):=by
 rw[←Ivl.eqB_eq]
 kernel_rfl
theorem a4p (a b:Life):eqV Tryz.prog 9 46 (.agg a.cells.toArray) (.agg b.cells.toArray)=some (decide (a=b)):=by
 rw[←Life.eqB_eq]
 kernel_rfl
theorem b1S (a b:Evt):eqV Tryz.prog 9 96 (.agg a.cells.toArray) (.agg b.cells.toArray)=some (decide (a=b)):=by
 rw[←Evt.eqB_eq]
 kernel_rfl
theorem c9A (I:IMap) (op:Int) :
    FnV Tryz.prog 125 #[.int .i64 op] I (.string (b0o op)):=by
 refine enter Tryz.func125 Tryz.call125 rfl Tryz.ntmps125 rfl (fun w0=>?_);refine go 8 ?_;refine a0l rfl (b2H he he rfl rfl) ?_;refine go 1 ?_;refine a0h he rfl (fun g3=>?_);refine go 1 ?_;refine a0m _ he rfl rfl rfl rfl rfl rfl ?_;refine go 8 ?_;refine sxb 7 rfl (fun h7 p7=>?_) (fun h7 p7=>?_)
 ·refine go 5 ?_;refine a3c rfl ?_;refine go 7 ?_;refine a0x rfl rfl ?_;exact q_v (congrArg Value.string (b1B (by omega)).symm)
 ·refine go 5 ?_;refine cb rfl (fun h10 p10=>?_) (fun h10 p10=>?_)
  ·refine go 7 ?_;refine a0x rfl rfl ?_;exact q_v (congrArg Value.string (b1B (by omega)).symm)
  ·refine go 5 ?_;refine o_v rfl (a5x he rfl rfl op.toNat (by omega) (by omega)) ?_;refine o_v rfl (a6t m0 he rfl (by rw[show 0+op.toNat * 1=op.toNat from by omega];exact c2j (by omega) (by omega))) ?_;refine go 4 ?_;refine a0x rfl rfl ?_;exact q_v rfl
theorem c9z (I:IMap) (g o:Nat) :
    FnV Tryz.prog 127 #[.pointer (some ⟨g,o,none⟩)] I (.agg #[.pointer (some ⟨g,o+0,none⟩),.pointer (some ⟨g,o+2,none⟩),.pointer (some ⟨g,o+4,none⟩)]):=by
 refine enter Tryz.func127 Tryz.call127 rfl Tryz.ntmps127 rfl (fun w0=>?_);refine go 3 ?_;refine a0h he rfl (fun g2=>?_);refine go 3 ?_;refine a1t T.mixed ?_;refine a0f 0 rfl rfl (by kernel_rfl) rfl (.cons _ .slnil) rfl (a0c rfl) ?_;refine a0f 1 rfl rfl (by kernel_rfl) rfl (.cons _ .slnil) rfl (a0j rfl) ?_;refine a0f 2 rfl rfl (by kernel_rfl) rfl (.cons _ .slnil) rfl (a0d he rfl) ?_;refine a0f 3 rfl rfl (by kernel_rfl) rfl (.cons _ .slnil) rfl (a0c rfl) ?_;refine a0f 4 rfl rfl (by kernel_rfl) rfl (.cons _ .slnil) rfl (a0j rfl) ?_;refine a0f 5 rfl rfl (by kernel_rfl) rfl (.cons _ .slnil) rfl (a0d he rfl) ?_;refine a0f 6 rfl rfl (by kernel_rfl) rfl (.cons _ .slnil) rfl (a0c rfl) ?_;refine a0f 7 rfl rfl (by kernel_rfl) rfl (.cons _ .slnil) rfl (a0j rfl) ?_;refine a0f 8 rfl rfl (by kernel_rfl) rfl (.cons _ .slnil) rfl (a0d he rfl) ?_;refine a0i 9 (by kernel_rfl) rfl ?_;refine a0l rfl (b2H he he rfl rfl) ?_;refine a0r (fun _ m=>m.keeps (.cons _ .slnil)) ?_;refine a0i 10 (by kernel_rfl) rfl ?_;refine a0m _ he rfl rfl rfl rfl rfl rfl ?_;refine a0r (fun _ m=>m.keeps (.cons _ .slnil)) ?_;refine a0w (by kernel_rfl) ?_;refine go 2 ?_;refine a0x rfl ⟨_,_,_,rfl,m0,.inr ⟨_,he,rfl,rfl⟩⟩ ?_;exact q_v rfl
theorem c2Z (I:IMap) (s:ByteArray) (hs:Sm s) :
    FnV Tryz.prog 129 #[.string s] I (.bool (!a2v s)):=by
 refine enter Tryz.func129 Tryz.call129 rfl Tryz.ntmps129 rfl (fun w0=>?_);refine go 9 ?_;refine a0a (a7Y _ s hs) rfl rfl ?_;refine go 5 ?_;refine a0x rfl rfl ?_;exact q_v rfl
theorem b4R (I:IMap) (e:Evt) (hs:SmE e) :
    FnV Tryz.prog 71 #[.agg e.cells.toArray] I (.bool (a1H e)):=by
 refine enter Tryz.func71 Tryz.call71 rfl Tryz.ntmps71 rfl (fun w0=>?_);refine go 3 ?_;refine a0B _ rfl rfl rfl (fun g1=>?_);refine go 5 ?_;refine a2z (I':=I) (L':=[(1,.pointer (some ⟨g1,0,none⟩)),(26,.bool (a8E e))]) (H':=[.blk g1 96 e.cells]) ?_ ?_
 ·refine go 4 ?_;refine a0a (c9A _ e.op) rfl rfl ?_;refine go 2 ?_;refine sxb 11 rfl (fun h11 p11=>?_) (fun h11 p11=>?_)
  ·refine go 17 ?_;exact a0E ⟨rfl,(congrArg (fun b=>some (Value.bool b)) (by simp only[a8E,h11,bS])),trivial⟩ rfl rfl
  ·refine go 5 ?_;refine sxb 16 rfl (fun h16 p16=>?_) (fun h16 p16=>?_)
   ·refine go 12 ?_;exact a0E ⟨rfl,(congrArg (fun b=>some (Value.bool b)) (by simp only[a8E,h11,h16,bS])),trivial⟩ rfl rfl
   ·refine go 5 ?_;refine sxb 21 rfl (fun h21 p21=>?_) (fun h21 p21=>?_)
    ·refine go 7 ?_;exact a0E ⟨rfl,(congrArg (fun b=>some (Value.bool b)) (by simp only[a8E,h11,h16,h21,bS])),trivial⟩ rfl rfl
    ·refine go 3 ?_;refine a0y rfl rfl h21 (a0a (a7Y _ _ hs.1) rfl rfl ?_);refine go 4 ?_;exact a0E ⟨rfl,(congrArg (fun b=>some (Value.bool b)) (by simp only[a8E,h11,h16,h21,bS])),trivial⟩ rfl rfl
 ·refine cb rfl (fun h26 p26=>?_) (fun h26 p26=>?_)
  ·refine go 7 ?_;refine a0x rfl rfl ?_;exact q_v (congrArg Value.bool (by simp only[a1H,h26];rfl))
  ·refine go 5 ?_;refine a0e he he rfl rfl rfl rfl rfl rfl rfl (fun v27=>?_);refine go 7 ?_;refine a0h he rfl (fun g4=>?_);refine go 1 ?_;refine a0m _ he rfl rfl rfl rfl rfl rfl ?_;refine go 6 ?_;refine a3r he rfl rfl rfl rfl ?_;refine go 2 ?_;refine a3r he rfl rfl rfl rfl ?_;refine go 2 ?_;refine a3r he rfl rfl rfl rfl ?_;refine go 3 ?_;refine a9u (Ix:=(fun v3 xs=>I)) (Lx:=(fun v3 xs=>[(3,v3),(4,.pointer (some ⟨g4,0,none⟩))])) (Hx:=(fun v3 xs=>[.row v3 9 1 (a2a e).length xs,.blk g4 96 (a6b e).cells])) (p:=(fun v3 xs=>Flat I xs (a2a e)∧a5O e=false)) ?_ ?_
   ·refine go 13 ?_;refine cb rfl (fun h34 p34=>?_) (fun h34 p34=>?_)
    ·refine go 4 ?_;refine a0e he he rfl rfl rfl rfl rfl rfl rfl (fun v38=>?_);refine go 3 ?_;refine a0g ?_;refine a3r he rfl rfl rfl rfl ?_;refine go 3 ?_;refine a0u ?_;refine a0b ?_;refine a0u ?_;refine a0b ?_;refine a0g ?_;exact a3N (_) (_) ⟨(by simp only[a2a,p26,p34,if_true,if_false];first|exact .nil|exact .one rfl|exact .cons rfl (.one rfl)),(by simp[a5O,p26,p34,h26,h34]<;>assumption)⟩ sb (by simp only[a2a,a6b,p26,p34,if_true,if_false];rfl) rfl
    ·refine go 6 ?_;refine cb rfl (fun h40 p40=>?_) (fun h40 p40=>?_)
     ·refine go 10 ?_;refine cb rfl (fun h46 p46=>?_) (fun h46 p46=>?_)
      ·refine go 9 ?_;refine a0x rfl rfl ?_;exact q_v (congrArg Value.bool (by simp[a1H,a5O,p26,p34,p40,p46,h26,h34,h40,h46]))
      ·refine go 8 ?_;refine a0e he he rfl rfl rfl rfl rfl rfl rfl (fun v51=>?_);refine go 3 ?_;refine a0g ?_;refine a3r he rfl rfl rfl rfl ?_;refine go 2 ?_;refine a3r he rfl rfl rfl rfl ?_;refine go 3 ?_;refine a0u ?_;refine a0b ?_;refine a0u ?_;refine a0b ?_;refine a0g ?_;exact a3N (_) (_) ⟨(by simp only[a2a,p26,p34,p40,p46,if_true,if_false];first|exact .nil|exact .one rfl|exact .cons rfl (.one rfl)),(by simp[a5O,p26,p34,p40,p46,h26,h34,h40,h46]<;>assumption)⟩ sb (by simp only[a2a,a6b,p26,p34,p40,p46,if_true,if_false];rfl) rfl
     ·refine go 6 ?_;refine cb rfl (fun h54 p54=>?_) (fun h54 p54=>?_)
      ·refine go 2 ?_;refine a2z (I':=I) (L':=[(1,.pointer (some ⟨g1,0,none⟩)),(3,v27),(4,.pointer (some ⟨g4,0,none⟩)),(64,.bool (decide (e.value=a1g)||decide ((200:Int)<(e.value.size:Nat))))]) (H':=[.row v27 9 1 0 [],.blk g1 96 e.cells,.blk g4 96 ({ e with op:=0,day:=0,part:=a1g }:Evt).cells]) ?_ ?_
       ·refine go 5 ?_;refine sxb 59 rfl (fun h59 p59=>?_) (fun h59 p59=>?_)
        ·refine go 7 ?_;refine a0u ?_;refine a0u ?_;exact a0E ⟨rfl,rfl,rfl,(congrArg (fun b=>some (Value.bool b)) (by simp only[h26,h34,h40,h54,h59,bS])),trivial⟩ rfl rfl
        ·refine go 7 ?_;refine a0u ?_;refine a0u ?_;exact a0E ⟨rfl,rfl,rfl,(congrArg (fun b=>some (Value.bool b)) (by simp only[h26,h34,h40,h54,h59,bS])),trivial⟩ rfl rfl
       ·refine cb rfl (fun h64 p64=>?_) (fun h64 p64=>?_)
        ·refine go 9 ?_;refine a0x rfl rfl ?_;exact q_v (congrArg Value.bool (by simp[a1H,a5O,p54,h64]))
        ·refine go 6 ?_;refine a0e he he rfl rfl rfl rfl rfl rfl rfl (fun v67=>?_);refine go 3 ?_;refine a1k ?_;refine a3r he rfl rfl rfl rfl ?_;refine go 2 ?_;refine a3r he rfl rfl rfl rfl ?_;refine go 3 ?_;refine a0u ?_;refine a0b ?_;refine a0u ?_;refine a0b ?_;refine a0g ?_;exact a3N (_) (_) ⟨(by simp only[a2a,p26,p34,p40,p54,p64,if_true,if_false];first|exact .nil|exact .one rfl|exact .cons rfl (.one rfl)),(by simp[a5O,p26,p34,p40,p54,p64,h64]<;>assumption)⟩ sb (by simp only[a2a,a6b,p26,p34,p40,p54,p64,if_true,if_false];rfl) rfl
      ·refine go 6 ?_;refine cb rfl (fun h70 p70=>?_) (fun h70 p70=>?_)
       ·refine go 5 ?_;refine a0a (c9z _ g1 8) rfl rfl ?_;refine go 4 ?_;refine a0g ?_;refine a0g ?_;refine a0u ?_
        refine a0L (α:=Nat) 0 (fun i=>I)
         (fun i=>[(1,.pointer (some ⟨g1,0,none⟩)),(3,v27),(4,.pointer (some ⟨g4,0,none⟩)),(73,.agg (b5K g1 8).toArray),(74,.int .i64 (i:Int))])
         (fun i=>[.blk g1 96 e.cells,.blk g4 96 ({ e with op:=0,day:=0,part:=a1g }:Evt).cells,.row v27 9 1 0 []])
         (fun i=>i≤3∧b0F e.use i=true)
         (fun i=>3-i) ⟨by omega,rfl⟩ rfl sb rfl ?_
        intro i ⟨hi,hn⟩;refine go 6 ?_;refine cb rfl (fun h75 p75=>?_) (fun h75 p75=>?_)
        ·have hlt:i<3:=by omega
         refine go 6 ?_;refine o_v rfl (d0R he he rfl rfl i rfl hlt (b8S g1 8 hlt)) ?_;refine go 4 ?_;refine a2z (I':=I) (L':=[(1,.pointer (some ⟨g1,0,none⟩)),(3,v27),(4,.pointer (some ⟨g4,0,none⟩)),(73,.agg (b5K g1 8).toArray),(74,.int .i64 (i:Int)),(99,.bool (!b0A (b4k e.use i)))]) (H':=[.blk g1 96 e.cells,.blk g4 96 ({ e with op:=0,day:=0,part:=a1g }:Evt).cells,.row v27 9 1 0 []]) ?_ ?_
         ·refine a1h T.mixed ?_;refine a0f 0 rfl rfl (by kernel_rfl) rfl (.refl _) rfl (a0c rfl) ?_;refine a0f 1 rfl rfl (by kernel_rfl) rfl (.refl _) rfl (a0j rfl) ?_;refine a0f 2 rfl rfl (by kernel_rfl) rfl (.refl _) rfl (a0d he rfl) ?_;refine a0f 3 rfl rfl (by kernel_rfl) rfl (.refl _) rfl (a6t m0 he rfl (c1V e hlt)) ?_;refine a0f 4 rfl rfl (by kernel_rfl) rfl (.refl _) rfl (a8n rfl rfl) ?_;refine a0f 5 rfl rfl (by kernel_rfl) rfl (.refl _) rfl (a0c rfl) ?_;refine sxb 82 rfl (fun h82 p82=>?_) (fun h82 p82=>?_)
          ·refine d_t 6 rfl rfl (by kernel_rfl) rfl (fun _ m=>m.keeps (.refl _)) (a3h rfl rfl h82) ?_;refine d_t 7 rfl rfl (by kernel_rfl) rfl (fun _ m=>m.keeps (.refl _)) (a3h rfl rfl h82) ?_;refine d_t 8 rfl rfl (by kernel_rfl) rfl (fun _ m=>m.keeps (.refl _)) (a3h rfl rfl h82) ?_;refine d_t 9 rfl rfl (by kernel_rfl) rfl (fun _ m=>m.keeps (.refl _)) (a3h rfl rfl h82) ?_;refine d_t 10 rfl rfl (by kernel_rfl) rfl (fun _ m=>m.keeps (.refl _)) (a3h rfl rfl h82) ?_;refine d_t 11 rfl rfl (by kernel_rfl) rfl (fun _ m=>m.keeps (.refl _)) (a3h rfl rfl h82) ?_;refine d_t 12 rfl rfl (by kernel_rfl) rfl (fun _ m=>m.keeps (.refl _)) (a3h rfl rfl h82) ?_;refine d_t 13 rfl rfl (by kernel_rfl) rfl (fun _ m=>m.keeps (.refl _)) (a3h rfl rfl h82) ?_;refine d_t 14 rfl rfl (by kernel_rfl) rfl (fun _ m=>m.keeps (.refl _)) (a3h rfl rfl h82) ?_;refine a0f 15 rfl rfl (by kernel_rfl) rfl (.refl _) rfl (b1y h82 rfl) ?_;refine a0f 16 rfl rfl (by kernel_rfl) rfl (.refl _) rfl (a0c rfl) ?_;refine d_t 17 rfl rfl (by kernel_rfl) rfl (fun _ m=>m.keeps (.refl _)) (a3h rfl rfl rfl) ?_;refine d_t 18 rfl rfl (by kernel_rfl) rfl (fun _ m=>m.keeps (.refl _)) (a3h rfl rfl rfl) ?_;refine d_t 19 rfl rfl (by kernel_rfl) rfl (fun _ m=>m.keeps (.refl _)) (a3h rfl rfl rfl) ?_;refine d_t 20 rfl rfl (by kernel_rfl) rfl (fun _ m=>m.keeps (.refl _)) (a3h rfl rfl rfl) ?_;refine d_t 21 rfl rfl (by kernel_rfl) rfl (fun _ m=>m.keeps (.refl _)) (a3h rfl rfl rfl) ?_;refine a0f 22 rfl rfl (by kernel_rfl) rfl (.refl _) rfl (b1y rfl rfl) ?_;refine a0w (by kernel_rfl) ?_;refine go 1 ?_;exact a0E ⟨rfl,rfl,rfl,rfl,rfl,(congrArg (fun b=>some (Value.bool b)) (by simp only[b0A,h75,h82,bS,Bool.not_not])),trivial⟩ rfl rfl
          ·refine d_t 6 rfl rfl (by kernel_rfl) rfl (fun _ m=>m.keeps (.refl _)) (a1L rfl rfl h82 (a0c rfl)) ?_;refine d_t 7 rfl rfl (by kernel_rfl) rfl (fun _ m=>m.keeps (.refl _)) (a1L rfl rfl h82 (a0j rfl)) ?_;refine d_t 8 rfl rfl (by kernel_rfl) rfl (fun _ m=>m.keeps (.refl _)) (a1L rfl rfl h82 (a0d he rfl)) ?_;refine d_t 9 rfl rfl (by kernel_rfl) rfl (fun _ m=>m.keeps (.refl _)) (a1L rfl rfl h82 (a6t m0 he rfl (c1V e hlt))) ?_;refine d_t 10 rfl rfl (by kernel_rfl) rfl (fun _ m=>m.keeps (.refl _)) (a1L rfl rfl h82 (a0c rfl)) ?_;refine d_t 11 rfl rfl (by kernel_rfl) rfl (fun _ m=>m.keeps (.refl _)) (a1L rfl rfl h82 (a0j rfl)) ?_;refine d_t 12 rfl rfl (by kernel_rfl) rfl (fun _ m=>m.keeps (.refl _)) (a1L rfl rfl h82 (a0d he rfl)) ?_;refine d_t 13 rfl rfl (by kernel_rfl) rfl (fun _ m=>m.keeps (.refl _)) (a1L rfl rfl h82 (a6t m0 he rfl (b7E e hlt))) ?_;refine d_t 14 rfl rfl (by kernel_rfl) rfl (fun _ m=>m.keeps (.refl _)) (a1L rfl rfl h82 (b8U rfl rfl)) ?_;refine a0f 15 rfl rfl (by kernel_rfl) rfl (.refl _) rfl (b4q h82 rfl rfl) ?_;refine a0f 16 rfl rfl (by kernel_rfl) rfl (.refl _) rfl (a0c rfl) ?_;refine sxb 93 rfl (fun h93 p93=>?_) (fun h93 p93=>?_)
           ·refine d_t 17 rfl rfl (by kernel_rfl) rfl (fun _ m=>m.keeps (.refl _)) (a3h rfl rfl h93) ?_;refine d_t 18 rfl rfl (by kernel_rfl) rfl (fun _ m=>m.keeps (.refl _)) (a3h rfl rfl h93) ?_;refine d_t 19 rfl rfl (by kernel_rfl) rfl (fun _ m=>m.keeps (.refl _)) (a3h rfl rfl h93) ?_;refine d_t 20 rfl rfl (by kernel_rfl) rfl (fun _ m=>m.keeps (.refl _)) (a3h rfl rfl h93) ?_;refine d_t 21 rfl rfl (by kernel_rfl) rfl (fun _ m=>m.keeps (.refl _)) (a3h rfl rfl h93) ?_;refine a0f 22 rfl rfl (by kernel_rfl) rfl (.refl _) rfl (b1y h93 rfl) ?_;refine a0w (by kernel_rfl) ?_;refine go 1 ?_;exact a0E ⟨rfl,rfl,rfl,rfl,rfl,(congrArg (fun b=>some (Value.bool b)) (by simp only[b0A,h75,h82,h93,bS,Bool.not_not])),trivial⟩ rfl rfl
           ·refine d_t 17 rfl rfl (by kernel_rfl) rfl (fun _ m=>m.keeps (.refl _)) (a1L rfl rfl h93 (a0c rfl)) ?_;refine d_t 18 rfl rfl (by kernel_rfl) rfl (fun _ m=>m.keeps (.refl _)) (a1L rfl rfl h93 (a0j rfl)) ?_;refine d_t 19 rfl rfl (by kernel_rfl) rfl (fun _ m=>m.keeps (.refl _)) (a1L rfl rfl h93 (a0d he rfl)) ?_;refine d_t 20 rfl rfl (by kernel_rfl) rfl (fun _ m=>m.keeps (.refl _)) (a1L rfl rfl h93 (a6t m0 he rfl (b7E e hlt))) ?_;refine d_t 21 rfl rfl (by kernel_rfl) rfl (fun _ m=>m.keeps (.refl _)) (a1L rfl rfl h93 (b8U rfl rfl)) ?_;refine a0f 22 rfl rfl (by kernel_rfl) rfl (.refl _) rfl (b4q h93 rfl rfl) ?_;refine a0w (by kernel_rfl) ?_;refine go 1 ?_;exact a0E ⟨rfl,rfl,rfl,rfl,rfl,(congrArg (fun b=>some (Value.bool b)) (by simp only[b0A,h75,h82,h93,bS,Bool.not_not])),trivial⟩ rfl rfl
         ·refine cb rfl (fun h99 p99=>?_) (fun h99 p99=>?_)
          ·refine go 13 ?_;refine a0x rfl rfl ?_;exact q_v (congrArg Value.bool (by simp[a1H,a5O,p70,c8A hlt (by simpa using h99)]))
          ·refine go 8 ?_;exact a0J (i+1) ⟨by omega,c4R hn (by simpa using h99)⟩ (by omega) rfl sb rfl
        ·have hU:b0F e.use 3=true:=(show i=3 by omega)▸hn
         refine go 7 ?_;refine a0l rfl (a0A (pl:=[(0,2),(2,2),(4,2)]) he he rfl rfl) ?_;refine go 2 ?_;refine a0g ?_;refine c9Y _ _ he rfl rfl rfl rfl rfl rfl rfl ?_;refine go 3 ?_;refine a0g ?_;refine a0b ?_;refine a0g ?_;exact a3N (_) (_) ⟨(by simp only[a2a,p26,p34,p40,p54,p70,p75,if_true,if_false];first|exact .nil|exact .one rfl|exact .cons rfl (.one rfl)),(by simp[a5O,p26,p34,p40,p54,p70,p75,h75]<;>assumption)⟩ sb (by simp only[a2a,a6b,p26,p34,p40,p54,p70,p75,if_true,if_false];rfl) rfl
       ·refine go 3 ?_;refine a0u ?_;refine a0b ?_;refine a0g ?_;exact a3N (_) (_) ⟨(by simp only[a2a,p26,p34,p40,p54,p70,if_true,if_false];first|exact .nil|exact .one rfl|exact .cons rfl (.one rfl)),(by simp[a5O,p26,p34,p40,p54,p70,h26,h34,h40,h54,h70]<;>assumption)⟩ sb (by simp only[a2a,a6b,p26,p34,p40,p54,p70,if_true,if_false];rfl) rfl
   ·intro v3 xs ⟨hF,hO⟩;refine go 4 ?_;refine a0l rfl (a0A (pl:=[(0,1),(1,1),(2,1),(3,1),(4,1),(5,1),(6,1),(7,1),(8,6)]) he he rfl rfl) ?_;refine o_v rfl (a3Q T.eqg_96 (b1S (a6b e) d0W) rfl rfl) ?_;refine go 1 ?_;refine sxb 106 rfl (fun h106 p106=>?_) (fun h106 p106=>?_)
    ·refine go 2 ?_;refine a0y rfl rfl h106 (b2l m0 rfl rfl (hF) (fun I2 hI2 hR=>a6F I2 _ _ hR _ [] (fun s=>!a2v s) (fun x hx vs hr=>by cases hr;exact c2Z I2 x (c3K hs hx))) rfl rfl ?_);refine go 6 ?_;refine a0x rfl rfl ?_;exact q_v (congrArg Value.bool (by simp only[a1H,h26,hO,h106,bS]))
    ·refine go 8 ?_;refine a0x rfl rfl ?_;exact q_v (congrArg Value.bool (by simp only[a1H,h26,hO,h106,bS]))
theorem c6L (I:IMap) (e:Evt) (hs:SmE e) :
    FnI Tryz.prog 197 #[.agg e.cells.toArray] I (fun u J=>RdS J u (a1R e)):=by
 refine enter Tryz.func197 Tryz.call197 rfl Tryz.ntmps197 rfl (fun w0=>?_);refine go 3 ?_;refine a0B _ rfl rfl rfl (fun g1=>?_);refine go 9 ?_;refine a0a (b4R _ e hs) rfl rfl ?_;refine go 4 ?_;refine cb rfl (fun h3 p3=>?_) (fun h3 p3=>?_)
 ·refine go 8 ?_;refine a0x rfl rfl ?_;exact q_i (by simp only[a1R,show a1H e=false by simpa using h3,if_true];exact RdS.nil')
 ·refine go 8 ?_;refine cb rfl (fun h7 p7=>?_) (fun h7 p7=>?_)
  ·refine go 6 ?_;refine o_v rfl (c5M rfl rfl) ?_;refine go 4 ?_;refine o_v rfl (c5L rfl rfl) ?_;refine go 1 ?_;refine a0e he he rfl rfl rfl rfl rfl rfl rfl (fun v21=>?_);refine a0o (l:=[d1f e.part e.into,d1e e.part e.into]) rfl rfl (.cons rfl (.one rfl)) (fun I21 j21 R21=>?_);refine go 6 ?_;refine a0x rfl rfl ?_;exact q_i (by simp only[a1R,p3,p7,if_true,if_false,Bool.true_eq_false];exact R21)
  ·refine go 8 ?_;refine a0e he he rfl rfl rfl rfl rfl rfl rfl (fun v24=>?_);refine a0o (l:=[e.part]) rfl rfl (.one rfl) (fun I24 j24 R24=>?_);refine go 4 ?_;refine a0x rfl rfl ?_;exact q_i (by simp only[a1R,p3,p7,if_true,if_false,Bool.true_eq_false];exact R24)
theorem c4r (I:IMap) (e:Evt) :
    FnV Tryz.prog 232 #[.agg e.cells.toArray] I (.bool (a6d e)):=by
 refine enter Tryz.func232 Tryz.call232 rfl Tryz.ntmps232 rfl (fun w0=>?_);refine go 3 ?_;refine a0B _ rfl rfl rfl (fun g1=>?_);refine go 10 ?_;refine sxb 7 rfl (fun h7 p7=>?_) (fun h7 p7=>?_)
 ·refine go 6 ?_;refine sxb 13 rfl (fun h13 p13=>?_) (fun h13 p13=>?_)
  ·refine go 6 ?_;refine sxb 19 rfl (fun h19 p19=>?_) (fun h19 p19=>?_)
   ·refine go 6 ?_;refine sxb 25 rfl (fun h25 p25=>?_) (fun h25 p25=>?_)
    ·refine go 6 ?_;refine sxb 31 rfl (fun h31 p31=>?_) (fun h31 p31=>?_)
     ·refine go 9 ?_;refine a0x rfl rfl ?_;exact q_v (congrArg Value.bool (by simp only[a6d,h7,h13,h19,h25,h31,bS]))
     ·refine go 9 ?_;refine a0x rfl rfl ?_;exact q_v (congrArg Value.bool (by simp only[a6d,h7,h13,h19,h25,h31,bS]))
    ·refine go 15 ?_;refine a0x rfl rfl ?_;exact q_v (congrArg Value.bool (by simp only[a6d,h7,h13,h19,h25,bS]))
   ·refine go 21 ?_;refine a0x rfl rfl ?_;exact q_v (congrArg Value.bool (by simp only[a6d,h7,h13,h19,bS]))
  ·refine go 27 ?_;refine a0x rfl rfl ?_;exact q_v (congrArg Value.bool (by simp only[a6d,h7,h13,bS]))
 ·refine go 33 ?_;refine a0x rfl rfl ?_;exact q_v (congrArg Value.bool (by simp only[a6d,h7,bS]))
theorem c7W (I:IMap) (v:Value) (l:List Evt) (hv:RdS I v l) (n:Int) :
    FnV Tryz.prog 171 #[v,.int .i64 n] I (.bool (c3d l n)):=by
 obtain⟨A,c0,rfl,hA,hc,hm⟩:=hv;refine enter Tryz.func171 Tryz.call171 rfl Tryz.ntmps171 rfl (fun w0=>?_);refine go 12 ?_
 refine a0L (α:=Nat) 0 (fun i=>I)
  (fun i=>[(0,.slice A l.length c0),(1,.int .i64 n),(5,.int .i64 (i:Int))])
  (fun i=>[])
  (fun i=>i≤l.length∧a3A (fun _ e=>a6d e) l i=true)
  (fun i=>l.length-i) ⟨Nat.zero_le _,rfl⟩ rfl sb rfl ?_
 intro i ⟨hi,hn⟩;refine go 8 ?_;refine sxb 10 rfl (fun h10 p10=>?_) (fun h10 p10=>?_)
 ·have hlt:i<l.length:=by omega
  refine go 6 ?_;refine cb rfl (fun h14 p14=>?_) (fun h14 p14=>?_)
  ·have hlt:i<l.length:=by omega
   refine go 8 ?_;obtain⟨b19,o19,w19,e19,c19,r19⟩:=RdA.at_ hA (i:=i) hlt;obtain rfl:=r19;refine o_v rfl (a0n he rfl rfl e19 (i) (by omega) hlt) ?_;refine o_v rfl (a0H he rfl c19 rfl) ?_;refine go 1 ?_;refine a0a (c4r _ _) rfl rfl ?_;refine go 3 ?_;refine cb rfl (fun h22 p22=>?_) (fun h22 p22=>?_)
   ·refine go 11 ?_;refine a0x rfl rfl ?_;exact q_v (congrArg Value.bool (by simp only[c3d,a1A (f:=fun _ e=>a6d e) hlt (by simpa using h22),bS]))
   ·refine go 9 ?_;exact a0J (i+1) ⟨by omega,a1M hn hlt (by simpa using h22)⟩ (by omega) rfl sb rfl
  ·refine go 15 ?_;refine a0x rfl rfl ?_;exact q_v (congrArg Value.bool (by rw[c3d,show decide (((l.length:Nat):Int)≤n)=false from decide_eq_false (by omega)];simp))
 ·refine go 6 ?_;refine a0P rfl ?_;refine go 15 ?_;refine a0x rfl rfl ?_
  have e:i=l.length:=(by omega)
  subst e;exact q_v (congrArg Value.bool (by simp only[c3d,hn,bS]))
end Go.Proofs.YtdapmfkbpnjkmaaGreat
