
import Derived.Test.YtgmkjpafapgccaaGreatZTsa
import Derived.Laws.Shifts
import Derived.Lib.Bytealg
import Derived.Scope
import Derived.Shelf.SlSortCmp.NoneTotal
import Derived.Shelf.Sort.Plain
import Derived.SizedLaws
set_option linter.all false
namespace Go.Sx
open Go
def zLife:Life:=⟨⟨0,0⟩,⟨0,0⟩,⟨0,0⟩⟩
def zPart:Part:=⟨a0M,a0M,a0M,a0M,0,0,false,[],zLife⟩
def PartIs (I:IMap) (r:Option Part) (u:Value):Prop:=∃vs,u = .tuple #[.agg vs.toArray,.bool r.isSome]∧Enc.rd I vs (r.getD zPart)
theorem PartIs.of {I:IMap} {r:Option Part} {k:Part} {vs:List Value} (h:r=some k) (hr:Enc.rd I vs k):PartIs I r (.tuple #[.agg vs.toArray,.bool true]):=by subst h;exact⟨vs,rfl,hr⟩
theorem PartIs.none {I:IMap} {r:Option Part} (h:r=none):PartIs I r (.tuple #[.agg (zPart.cells (.slice none 0 0)).toArray,.bool false]):=by subst h;exact⟨_,rfl,_,rfl,RdS.nil'⟩
def a0e (st:List Part) (s:ByteArray):Option Part:=st.find? fun p=>decide (p.name=s)
def Ix (kvs:List (ByteArray×Value)) (st:List Part):Prop:=∀s,a4h kvs s=(st.findIdx? fun p=>decide (p.name=s)).map fun i=>ci (i:Nat)
theorem Ix.nil:Ix [] []:=fun s=>rfl
theorem Ix.isS {kvs:List (ByteArray×Value)} {st:List Part} (h:Ix kvs st) (s:ByteArray):(a4h kvs s).isSome=(st.findIdx? fun p=>decide (p.name=s)).isSome:=by rw[h s];simp
theorem c0f {kvs:List (ByteArray×Value)} {k:ByteArray} {v:Value} (h:(kvs.map Prod.fst).Nodup):((a4I kvs k v).map Prod.fst).Nodup:=by
 have key:∀(kvs:List (ByteArray×Value)),(kvs.map Prod.fst).Nodup→((a4I kvs k v).map Prod.fst).Nodup∧∀x,x∈(a4I kvs k v).map Prod.fst→x=k∨x∈kvs.map Prod.fst:=by
  intro kvs
  induction kvs with
  |nil=>intro _;simp[a4I]
  |cons p r ih=>
   obtain⟨k',u⟩:=p;intro h;rw[List.map_cons,List.nodup_cons]at h
   simp only[a4I]
   split
   ·exact⟨by rw[List.map_cons,List.nodup_cons];exact h,fun x hx=>.inr hx⟩
   ·rename_i hne
    obtain⟨h1,h2⟩:=ih h.2;refine⟨by rw[List.map_cons,List.nodup_cons];exact⟨fun hm=>(h2 _ hm).elim hne h.1,h1⟩,fun x hx=>?_⟩;rw[List.map_cons,List.mem_cons]at hx ⊢
    rcases hx with hx|hx
    ·exact .inr (.inl hx)
    ·exact (h2 x hx).imp id .inr
 exact (key kvs h).1
theorem Ix.put {kvs:List (ByteArray×Value)} {st:List Part} {p:Part} {j:Nat} (h:Ix kvs st) (hj:j=st.length) (hn:(a4h kvs p.name).isSome=false):Ix (a4I kvs p.name (ci (j:Nat))) (st++[p]):=by
 subst hj;intro s;have h1:st.findIdx? (fun q=>decide (q.name=p.name))=none:=by rw[h.isS]at hn;simpa using hn
 rw[a7C,List.findIdx?_append]
 by_cases e:p.name=s
 ·subst e
  simp[h1]
 ·rw[if_neg e,h s]
  simp[e]
theorem Ix.skip {kvs:List (ByteArray×Value)} {st:List Part} {p:Part} (h:Ix kvs st) (hn:(a4h kvs p.name).isSome=true):Ix kvs (st++[p]):=by
 intro s;rw[h s,List.findIdx?_append]
 by_cases e:p.name=s
 ·subst e;rw[h.isS]at hn
  obtain⟨i,hi⟩:=Option.isSome_iff_exists.1 hn
  simp[hi]
 ·simp[e]
theorem Ix.look {kvs:List (ByteArray×Value)} {st:List Part} (h:Ix kvs st) (s:ByteArray):∃(z:Int) (b:Bool),(a4h kvs s).getD (.int .i64 0) = .int .i64 z∧(a4h kvs s).isSome=b ∧
  (b=true→∃(i:Nat) (hi:i<st.length),z=(i:Int)∧a0e st s=some st[i])∧(b=false→a0e st s=none):=by
 rw[h s]
 cases hf:st.findIdx? fun p=>decide (p.name=s) with
 |none=>
  refine⟨0,false,rfl,rfl,fun h=>(by cases h),fun _=>?_⟩;rw[List.findIdx?_eq_none_iff]at hf
  rw[a0e,List.find?_eq_none];intro x hx
  simpa using hf x hx
 |some i=>
  refine⟨i,true,rfl,rfl,fun _=>?_,fun h=>(by cases h)⟩;rw[List.findIdx?_eq_some_iff_getElem]at hf
  obtain⟨hi,hp,hn⟩:=hf;refine⟨i,hi,rfl,?_⟩;rw[a0e,List.find?_eq_some_iff_getElem];exact⟨hp,i,hi,rfl,fun j hj=>by simpa using hn j hj⟩
def b0R {α:Type} (nm:α→ByteArray) (pre:List α) (x:α):Bool:=match pre.getLast? with|some y=>sLt (nm y) (nm x)|none=>true
def c3y {α:Type} (nm:α→ByteArray) (l:List α):Bool:=a3v (b0R nm) l l.length
theorem b8G {α:Type} {nm:α→ByteArray} {l:List α} {i:Nat} (h1:1≤i) (hi:i<l.length) (h:a3v (b0R nm) l i=true) (hp:sLt (nm (l[i-1]'oM)) (nm l[i])=true) :
  a3v (b0R nm) l (i+1)=true:=by
 refine a1r h hi ?_
 have:(l.take i).getLast? = some (l[i-1]'oM):=by
  rw[List.getLast?_eq_getElem?,List.length_take,Nat.min_eq_left oM,List.getElem?_take,if_pos oM,List.getElem?_eq_getElem]
 simp only[b0R,this];exact hp
theorem c3z {α:Type} {nm:α→ByteArray} {l:List α} {i:Nat} (h1:1≤i) (hi:i<l.length) (hp:sLt (nm (l[i-1]'oM)) (nm l[i])=false):c3y nm l=false:=by
 refine a1g hi ?_
 have:(l.take i).getLast? = some (l[i-1]'oM):=by
  rw[List.getLast?_eq_getElem?,List.length_take,Nat.min_eq_left oM,List.getElem?_take,if_pos oM,List.getElem?_eq_getElem]
 simp only[b0R,this];exact hp
theorem b4Z {α:Type} {nm:α→ByteArray} (l:List α):a3v (b0R nm) l 1=true:=by
 cases l<;>simp[a3v,List.range_succ,b0R]
theorem c1b {α:Type} {f:List α→α→Bool} {l:List α} {i j:Nat} (hij:j≤i) (h:a3v f l i=true):a3v f l j=true:=by
 rw[a3v,List.all_eq_true]at h ⊢
 intro k hk;exact h k (List.mem_range.2 (by have:=List.mem_range.1 hk;omega))
def a3d (i:Ivl):Bool:=(decide (0≤i.low)&&decide (i.low≤i.high))&&decide (i.high≤1000000000000)
def a6M (p:Prp):Bool:=(a1p p.key && !decide (p.value=a0M))&&decide (((p.value.size:Nat):Int)≤200)
def a4X (c:List Kind) (p:Part):Bool:=((((!(a8v c p.kind).isSome || !a1p p.name)||decide (p.made<0))||decide (p.since<p.made))||decide (40000<p.since))||decide ((60:Int)<(p.props.length:Nat))
def a5J (c:List Kind) (p:Part):Bool:=!a4X c p&&a3v (fun _ q=>a6M q) p.props p.props.length&&(((c3y Prp.key p.props&&a3d p.life.km)&&a3d p.life.cycles)&&a3d p.life.damage)
def SmP (p:Part):Prop:=Sm p.name∧∀q∈p.props,Sm q.key
def SmF (st:List Part):Prop:=∀p∈st,SmP p
def a4R (p:Part):ByteArray×ByteArray:=(p.into,p.slot)
def a4l (pre:List Part):List Part:=pre.filter fun p=>!decide (p.into=a0M)
def c1k (c:List Kind) (p:Part):Bool:=!a5J c p || !(decide (p.into=a0M) == decide (p.slot=a0M))
def b4c (c:List Kind) (st:List Part) (pre:List Part) (p:Part):Bool:=
 (((!(a0e st p.into).isSome||p.scrapped)||((a0e st p.into).getD zPart).scrapped)||hit a4R (a4l pre) (a4R p)) || !a8e c ((a0e st p.into).getD zPart).kind p.slot p.kind
def a4r (c:List Kind) (st:List Part) (pre:List Part) (p:Part):Bool:=!c1k c p&&(decide (p.into=a0M) || !b4c c st pre p)
def b9t (c:List Kind) (st:List Part):Bool:=(!a1I c||decide ((20000:Int)<(st.length:Nat))) || !c3y Part.name st
def a4S (c:List Kind) (st:List Part):Bool:=!b9t c st&&a3v (a4r c st) st st.length
theorem b6Z {st:List Part} {i:Nat} (hi:i<st.length) (h:st[i].into=a0M):a4l (st.take (i+1))=a4l (st.take i):=by
 rw[←a0c hi,a4l,List.filter_append];simp[h,a4l]
theorem b5s {st:List Part} {i:Nat} (hi:i<st.length) (h:¬st[i].into=a0M):a4l (st.take (i+1))=a4l (st.take i)++[st[i]]:=by
 rw[←a0c hi,a4l,List.filter_append];simp[h,a4l]
end Go.Sx
set_option linter.all false
namespace Go.Sx
open Go
theorem b4g:∀l:List UInt8,Op.bytesLess l l=false
 | []=>rfl
 |a::l=>by simp[Op.bytesLess,b4g l]
theorem c5y:∀(a b c:List UInt8),Op.bytesLess a b=true→Op.bytesLess b c=true→Op.bytesLess a c=true:=by
 intro a
 induction a with
 |nil=>
  intro b c h1 h2
  cases c with
  |nil=>cases b<;>simp[Op.bytesLess]at h2
  |cons=>rfl
 |cons x a ih=>
  intro b c h1 h2
  cases b with
  |nil=>simp[Op.bytesLess]at h1
  |cons y b=>
   cases c with
   |nil=>simp[Op.bytesLess]at h2
   |cons z c=>
    simp only[Op.bytesLess,Bool.or_eq_true,decide_eq_true_eq,Bool.and_eq_true,beq_iff_eq]at h1 h2 ⊢
    rcases h1 with h1|⟨rfl,h1⟩
    ·rcases h2 with h2|⟨rfl,h2⟩
     ·exact .inl (UInt8.lt_trans h1 h2)
     ·exact .inl h1
    ·rcases h2 with h2|⟨rfl,h2⟩
     ·exact .inl h2
     ·exact .inr ⟨rfl,ih b c h1 h2⟩
theorem d3A:∀(a b:List UInt8),Op.bytesLess a b=false→Op.bytesLess b a=false→a=b:=by
 intro a
 induction a with
 |nil=>intro b h1 h2;cases b with
  |nil=>rfl
  |cons=>simp[Op.bytesLess]at h1
 |cons x a ih=>
  intro b h1 h2
  cases b with
  |nil=>simp[Op.bytesLess]at h2
  |cons y b=>
   simp only[Op.bytesLess,Bool.or_eq_false_iff,decide_eq_false_iff_not,Bool.and_eq_false_iff,beq_eq_false_iff_ne]at h1 h2
   obtain⟨h1,h3⟩:=h1;obtain⟨h2,h4⟩:=h2
   have e:x=y:=by
    apply UInt8.toNat_inj.1
    have a1:¬x.toNat<y.toNat:=fun h=>h1 (UInt8.lt_iff_toNat_lt.2 h)
    have a2:¬y.toNat<x.toNat:=fun h=>h2 (UInt8.lt_iff_toNat_lt.2 h)
    omega
   subst e;have h3':Op.bytesLess a b=false:=by rcases h3 with h|h;exact absurd rfl h;simpa using h
   have h4':Op.bytesLess b a=false:=by rcases h4 with h|h;exact absurd rfl h;simpa using h
   rw[ih b h3' h4']
theorem a1K (s:ByteArray):sLt s s=false:=b4g _
theorem a2B {a b c:ByteArray} (h1:sLt a b=true) (h2:sLt b c=true):sLt a c=true:=c5y _ _ _ h1 h2
theorem b3J {a b:ByteArray} (h1:sLt a b=false) (h2:sLt b a=false):a=b:=by
 have h:=d3A _ _ h1 h2;have:=a8b a b;rw[h]at this
 simpa using this.symm
theorem b5q {a b:ByteArray} (h:sLt a b=true):sLt b a=false:=by
 cases h2:sLt b a with
 |false=>rfl
 |true=>have:=a2B h h2;rw[a1K]at this;cases this
theorem a6n {a b:ByteArray}:a9u a b<0↔sLt a b=true:=by
 unfold a9u;split
 ·rename_i h;simp[h]
 ·rename_i h;split<;>simp[h]
theorem a7j {a b:ByteArray}:a9u a b=0↔a=b:=by
 unfold a9u;split
 ·rename_i h
  constructor
  ·intro h2;cases h2
  ·rintro rfl;rw[a1K]at h;cases h
 ·rename_i h
  split
  ·rename_i h2
   constructor
   ·intro h3;cases h3
   ·rintro rfl;simp at h2
  ·rename_i h2;simp[h]at h2;simp[h2]
def Srt {α:Type} (nm:α→ByteArray) (l:List α):Prop:=∀i j (hj:j<l.length) (hi:i<j),sLt (nm (l[i]'oM)) (nm l[j])=true
theorem Srt.of_ord {α:Type} {nm:α→ByteArray} {l:List α} (h:c3y nm l=true):Srt nm l:=by
 have step:∀j (hj:j+1<l.length),sLt (nm (l[j]'oM)) (nm l[j+1])=true:=by
  intro j hj;rw[c3y,a3v,List.all_eq_true]at h
  have h1:=h (j+1) (List.mem_range.2 hj)
  have h2:(l.take (j+1)).getLast? = some (l[j]'oM):=by
   rw[List.getLast?_eq_getElem?,List.length_take,Nat.min_eq_left oM,List.getElem?_take,if_pos oM,List.getElem?_eq_getElem]
   rfl
  simpa[List.getElem?_eq_getElem hj,b0R,h2]using h1
 intro i j
 induction j with
 |zero=>intro hj hi;omega
 |succ j ih=>
  intro hj hi
  rcases Nat.lt_or_ge i j with hij|hij
  ·exact a2B (ih oM hij) (step j hj)
  ·obtain rfl:i=j:=oM;exact step i hj
def a6y {α:Type} (nm:α→ByteArray) (l:List α) (s:ByteArray):Nat:=l.findIdx fun x=>!sLt (nm x) s
def atF {α:Type} (nm:α→ByteArray) (l:List α) (s:ByteArray):Bool:=match l[a6y nm l s]? with|some x=>decide (nm x=s)|none=>false
theorem b8K {α:Type} (nm:α→ByteArray) (l:List α) (s:ByteArray):a6y nm l s≤l.length:=List.findIdx_le_length
theorem b8J {α:Type} {nm:α→ByteArray} {l:List α} {s:ByteArray} {i:Nat} (hi:i≤l.length) (h1:∀q x,q<i→l[q]? = some x→sLt (nm x) s=true) (h2:∀q x,i≤q→l[q]? = some x→sLt (nm x) s=false):a6y nm l s=i:=by
 rcases Nat.lt_or_ge i l.length with h|h
 ·refine (List.findIdx_eq h).2 ⟨by simp[h2 i _ (Nat.le_refl _) (List.getElem?_eq_getElem h)],fun j hj=>?_⟩
  simp[h1 j _ hj (List.getElem?_eq_getElem oM)]
 ·obtain rfl:i=l.length:=oM;refine List.findIdx_eq_length.2 fun x hx=>?_
  obtain⟨j,hj,rfl⟩:=List.getElem_of_mem hx
  simp[h1 j _ hj (List.getElem?_eq_getElem hj)]
theorem d3C {α:Type} {nm:α→ByteArray} {l:List α} {s:ByteArray} {h:Nat} (hs:Srt nm l) (hh:h<l.length) (hl:sLt (nm l[h]) s=true) (q:Nat) (x:α) (hq:q<h+1) (hx:l[q]? = some x):sLt (nm x) s=true:=by
 obtain⟨hql,rfl⟩:=List.getElem?_eq_some_iff.1 hx
 rcases Nat.lt_or_ge q h with hqh|hqh
 ·exact a2B (hs q h hh hqh) hl
 ·obtain rfl:q=h:=oM;exact hl
theorem d3B {α:Type} {nm:α→ByteArray} {l:List α} {s:ByteArray} {h:Nat} (hs:Srt nm l) (hh:h<l.length) (hl:sLt (nm l[h]) s=false) (q:Nat) (x:α) (hq:h≤q) (hx:l[q]? = some x):sLt (nm x) s=false:=by
 obtain⟨hql,rfl⟩:=List.getElem?_eq_some_iff.1 hx
 rcases Nat.lt_or_ge h q with hqh|hqh
 ·cases hc:sLt (nm l[q]) s with
  |false=>rfl
  |true=>have:=a2B (hs h q hql hqh) hc;rw[this]at hl;cases hl
 ·obtain rfl:q=h:=oM;exact hl
theorem d3z {α:Type} {nm:α→ByteArray} {l:List α} {s:ByteArray} {i:Nat} (hp:a6y nm l s=i) (hi:i<l.length):atF nm l s=decide (nm l[i]=s):=by
 simp[atF,hp,hi]
theorem c9K {α:Type} {nm:α→ByteArray} {l:List α} {s:ByteArray} {i:Nat} (hp:a6y nm l s=i) (hi:¬i<l.length):atF nm l s=false:=by
 simp[atF,hp,List.getElem?_eq_none (by omega:l.length≤i)]
theorem c8P {α:Type} {nm:α→ByteArray} {l:List α} {s:ByteArray} (h:atF nm l s=true):a6y nm l s<l.length:=by
 rcases Nat.lt_or_ge (a6y nm l s) l.length with h1|h1
 ·exact h1
 ·rw[c9K rfl oM]at h;cases h
theorem wrap_u64 (x:Int) (h0:0≤x) (h:x<18446744073709551616):IntKind.u64.wrap x=x:=by
 simp[IntKind.wrap,IntKind.signed,IntKind.bits]
 omega
def a5a {α:Type} (nm:α→ByteArray) (l:List α) (x:α):List α:=if atF nm l (nm x)=true then l.set (a6y nm l (nm x)) x else l.take (a6y nm l (nm x))++x::l.drop (a6y nm l (nm x))
end Go.Sx
set_option linter.all false
namespace Go.Sx
open Go
section
variable {α:Type}
theorem b8d {xs:List α} {c z:α} {i n q r:Nat} (hn:xs.length=n) (hi:i≤n) (hq:i+q=n+1) :
  (((xs.take i++List.replicate (q+r) z).take i++([c]++(xs.take i++List.replicate (q+r) z).drop (i+[c].length))).take (i+1) ++
   (xs.drop i++((xs.take i++List.replicate (q+r) z).take i++([c]++(xs.take i++List.replicate (q+r) z).drop (i+[c].length))).drop (i+1+(xs.drop i).length)))=(xs.take i++c::xs.drop i)++List.replicate r z:=by
 have h1:(xs.take i).length=i:=by rw[List.length_take];omega
 have h2:(xs.take i++List.replicate (q+r) z).take i=xs.take i:=by rw[List.take_append_of_le_length oM,List.take_of_length_le oM]
 have h3:(xs.take i++List.replicate (q+r) z).drop (i+[c].length)=List.replicate (q+r-1) z:=by
  rw[List.drop_append,List.drop_eq_nil_of_le (by simp;omega),List.nil_append,h1,List.drop_replicate]
  congr 1
  simp
 rw[h2,h3]
 have h4:(xs.take i++([c]++List.replicate (q+r-1) z)).take (i+1)=xs.take i++[c]:=by
  rw[List.take_append,List.take_of_length_le oM,h1]
  congr 1
  rw[show i+1-i=1 from by omega]
  rfl
 have h5:(xs.take i++([c]++List.replicate (q+r-1) z)).drop (i+1+(xs.drop i).length)=List.replicate r z:=by
  rw[List.drop_append,List.drop_eq_nil_of_le oM,List.nil_append,h1,List.length_drop,List.drop_append,List.drop_eq_nil_of_le (by simp;omega),List.nil_append,List.drop_replicate]
  congr 1
  simp
  omega
 rw[h4,h5]
 simp
theorem b4G {xs rest:List α} {c:α} {i n:Nat} (hn:xs.length=n) (hi:i≤n) (hr:0<rest.length) :
  ((((xs++rest).take (i+1)++((((xs++rest).drop i).take (n-i))++(xs++rest).drop (i+1+(((xs++rest).drop i).take (n-i)).length))).take i) ++
   ([c]++((xs++rest).take (i+1)++((((xs++rest).drop i).take (n-i))++(xs++rest).drop (i+1+(((xs++rest).drop i).take (n-i)).length))).drop (i+[c].length)))=(xs.take i++c::xs.drop i)++rest.drop 1:=by
 have h1:((xs++rest).drop i).take (n-i)=xs.drop i:=by
  rw[List.drop_append_of_le_length oM,List.take_append_of_le_length (by rw[List.length_drop];omega),List.take_of_length_le (by rw[List.length_drop];omega)]
 rw[h1];have h2:((xs++rest).take (i+1)).length=i+1:=by rw[List.length_take,List.length_append];omega
 have h3:(xs++rest).drop (i+1+(xs.drop i).length)=rest.drop 1:=by
  rw[List.length_drop,List.drop_append,List.drop_eq_nil_of_le oM,List.nil_append]
  congr 1
  omega
 rw[h3];rw[List.take_append_of_le_length oM,List.take_take,Nat.min_eq_left oM,List.take_append_of_le_length oM];rw[List.drop_append,List.drop_eq_nil_of_le (by simp;omega),List.nil_append,h2];rw[show i+[c].length-(i+1)=0 from by simp]
 simp
end
section
variable {P:Program} {ρ:Option Nat} {n:Sz} {E:Ent} {I:IMap} {L:LL} {H:List Res} {Q:Exit→Act→World→Prop} {ops:Array Oper} {K:Act→World→Prop}
variable {d ty:Nat} {pos:String} {af:Array Edge}
theorem a4C {g t:Nat} {xss yss:List (List Value)} (h:xss=yss) (k:SX n E I L (.blk g t yss.flatten::H) K):SX n E I L (.blk g t xss.flatten::H) K:=h▸k
theorem OV.cast {op:Op} {dst:Option Nat} {v u:Value} (h:OV P n E I L H ⟨dst,op,ty,pos,af,none⟩ v) (e:v=u):OV P n E I L H ⟨dst,op,ty,pos,af,none⟩ u:=e▸h
theorem a1z {g c o k:Nat} (h:o<c):c5K (some ⟨g,0,none⟩) c o k=some ⟨g,o * k,none⟩:=by
 unfold c5K;rw[if_neg oM]
 simp[add_lit]
theorem b3K {g t k o m:Nat} {xss:List (List Value)} (hm:Res.blk g t xss.flatten∈H) (hU:Uk k xss) (w:World) (mm:Mem E I H w) (j:Nat) (u:Value) (hu:((xss.drop o).take m).flatten[j]? = some u):w.cell? ⟨g,o * k+j,none⟩=some u:=by
 have hg:w.heap[g]? = some (.cells xss.flatten.toArray t (0,0)):=mm.holds _ hm;rw[cell_of_row w g _ _ t _ hg];rw[←a7t (hU.drop o),←a7s hU,List.getElem?_take]at hu
 split at hu
 ·simpa[List.getElem?_drop]using hu
 ·cases hu
end
end Go.Sx
set_option linter.all false
namespace Go.Sx
open Go
section
variable {P:Program} {ρ:Option Nat} {n:Sz} {E:Ent} {I:IMap} {L:LL} {H:List Res} {Q:Exit→Act→World→Prop} {ops:Array Oper} {K:Act→World→Prop}
variable {d ty:Nat} {pos:String} {af:Array Edge}
theorem d1u {v:Value} {g t:Nat} {cs:List Value} {fo:Operand} {as_:List Operand} {ats:Array TypeId} {f:FuncId} {args:List Value}
  (hm:Res.blk g t cs∈H) (hc:∀I2,ILe I I2→ICells I2 g 0 cs→FnV P f args.toArray I2 v) (h:a1w L fo as_=some (f,args)) (hd:Nat.blt d n.sz=true)
  (kk:SX n E I ((d,v)::L) H K) :
  SX n E I L H (one P ops Q ⟨some d,.call { callee:=.value fo,args:=as_.toArray,argTypes:=ats },ty,pos,af,none⟩ K):=by
 intro a w s mm;have hg:w.heap[g]? = some (.cells cs.toArray t (0,0)):=mm.holds _ hm;have hpriv:=(mm.priv _ hm g rfl).1;have hle:ILe I (I.pub g (.cells cs.toArray t (0,0))):=IMap.pub_le _ hpriv;have hR:ICells (I.pub g (.cells cs.toArray t (0,0))) g 0 cs:=fun j u hu=>⟨_,t,(0,0),IMap.pub_same _ _ _,by rw[Nat.zero_add];simpa using hu⟩
 have m2:Mem ⟨[],I.pub g (.cells cs.toArray t (0,0)),w⟩ (I.pub g (.cells cs.toArray t (0,0))) [] w:=⟨Upd.refl _ _,fun b o hb=>by
  unfold IMap.pub at hb
  split at hb
  ·rename_i e;subst e;cases hb;exact hg
  ·exact mm.con b o hb,ILe.refl _,fun b hb=>.inl hb,fun _ h=>(by cases h),fun _ h=>(by cases h),List.nodup_nil⟩
 have back:∀w',Mem ⟨[],I.pub g (.cells cs.toArray t (0,0)),w⟩ (I.pub g (.cells cs.toArray t (0,0))) [] w'→Mem E I H w':=fun w' m'=>
  mm.other m'.upd.os m'.upd.tape m'.upd.output m'.upd.size (fun k hk=>m'.upd.block k hk (by simp))
 unfold one;rw[if_pos (by rfl)];refine a8l ?_;have h1:=(hc _ hle hR).go w m2;unfold After at h1 ⊢
 rw[a7W s h ⟨some d,.call { callee:=.value fo,args:=as_.toArray,argTypes:=ats },ty,pos,af,none⟩ rfl (ats:=ats)]
 have key:∀e w'',a9p ⟨[],(I.pub g (.cells cs.toArray t (0,0))),w⟩ (fun u I' H'=>u=v∧I'=(I.pub g (.cells cs.toArray t (0,0)))∧H'=[]) e w''→(match e with | .returned v=>K (a.put (some d) v) w''|_=>False):=by
  rintro e w'' ⟨u,I',H',rfl,hm',rfl,rfl,rfl⟩;exact kk _ _ (s.put hd) (back _ hm')
 split at h1
 ·rename_i v w' hr;exact key _ _ h1
 ·rename_i f' args' w' hr;exact Calls.mono h1 key
 ·rename_i l f' tmps assign body w' hr;exact RoundIn.mono h1 key
 ·exact h1.elim
end
abbrev b1P:=List Part×Int
def a5V (n:Int):b1P:=([],n)
def c0v (st:List Part) (p:Part):b1P:=(a5a Part.name st p,0)
def c9f (e:Evt):Part:=⟨e.part,e.kind,a0M,a0M,e.day,e.day,false,[],zLife⟩
def a3T (c:List Kind) (st:List Part) (e:Evt):b1P:=
 if (a0e st e.part).isSome=true then a5V 3 else if (a8v c e.kind).isSome=false then a5V 4 else if ((st.length:Nat):Int)=20000 then a5V 7 else c0v st (c9f e)
def a0P (st:List Part) (e:Evt):Bool:=st.any fun x=>decide (x.into=e.into)&&decide (x.slot=e.slot)
def a1h (st:List Part) (s:ByteArray):Bool:=st.any fun x=>decide (x.into=s)
def a1v (c:List Kind) (st:List Part) (e:Evt) (p q:Part) (kd:Kind):b1P:=
 if (kd.vehicle || !a8e c q.kind e.slot p.kind)=true then a5V 4 else if ¬p.into=a0M then a5V 5 else if a0P st e=true then a5V 6 else c0v st { p with into:=e.into,slot:=e.slot }
def a0I (st:List Part) (p:Part):b1P:=if p.into=a0M then a5V 5 else c0v st { p with into:=a0M,slot:=a0M }
def a1q (st:List Part) (p:Part) (kd:Kind):b1P:=if kd.vehicle=false then a5V 4 else c0v st p
def a2r (e:Evt) (p:Part):Part:={ p with since:=if e.day>p.since then e.day else p.since,life:=zLife }
def a4J (e:Evt) (p:Part):Part:={ p with props:=a5a Prp.key p.props ⟨e.key,e.value⟩ }
def a1d (st:List Part) (e:Evt) (p:Part):b1P:=if (60:Int)<((a4J e p).props.length:Nat) then a5V 7 else c0v st (a4J e p)
def a0N (st:List Part) (p:Part):b1P:=if (!decide (p.into=a0M)||a1h st p.name)=true then a5V 5 else c0v st { p with scrapped:=true }
def a2a (c:List Kind) (st:List Part) (e:Evt) (p q:Part) (kd:Kind):b1P:=
 if e.op=2 then a1v c st e p q kd else if e.op=3 then a0I st p else if e.op=4 then a1q st p kd else if e.op=5 then c0v st (a2r e p) else if e.op=6 then a1d st e p else if e.op=7 then a0N st p else c0v st p
def a3i (st:List Part) (e:Evt):Part:=(a0e st e.part).getD zPart
def a7J (st:List Part) (e:Evt):Option Part:=if e.op=2 then a0e st e.into else a0e st e.part
def a7K (st:List Part) (e:Evt):Part:=(a7J st e).getD zPart
def a5M (c:List Kind) (st:List Part) (e:Evt):Kind:=(a8v c (a3i st e).kind).getD b3S
def a0K (c:List Kind) (st:List Part) (e:Evt):b1P:=
 if (!(a0e st e.part).isSome || !(a7J st e).isSome)=true then a5V 2 else if ((a3i st e).scrapped||(a7K st e).scrapped)=true then a5V 5 else a2a c st e (a3i st e) (a7K st e) (a5M c st e)
def a0j (c:List Kind) (st:List Part) (e:Evt):b1P:=
 if (!a4S c st || !a1D e)=true then a5V 1 else if e.op=1 then a3T c st e else a0K c st e
def StIs (J:IMap) (r:b1P) (u:Value):Prop:=∃w,u = .tuple #[.agg #[w],.int .i64 r.2]∧RdS J w r.1
theorem StIs.fail {J:IMap} {r:b1P} {n:Int} (h:r=a5V n):StIs J r (.tuple #[.agg #[.slice none 0 0],.int .i64 n]):=by subst h;exact⟨_,rfl,RdS.nil'⟩
theorem StIs.put {J:IMap} {r:b1P} {st:List Part} {p:Part} {w:Value} (h:r=c0v st p) (hw:RdS J w (a5a Part.name st p)):StIs J r (.tuple #[.agg #[w],.int .i64 0]):=by subst h;exact⟨w,rfl,hw⟩
theorem b2E {c:List Kind} {st:List Part} (h:a4S c st=true):Srt Part.name st∧st.length≤20000:=by
 simp only[a4S,b9t,Bool.and_eq_true,Bool.not_eq_true',Bool.or_eq_false_iff,Bool.not_eq_false',decide_eq_false_iff_not]at h
 exact⟨Srt.of_ord h.1.2,oM⟩
theorem a3P {α:Type} {f:List α→α→Bool} {l:List α} (h:a3v f l l.length=true) {x:α} (hx:x∈l):∃pre,f pre x=true:=by
 obtain⟨i,hi,rfl⟩:=List.getElem_of_mem hx;rw[a3v,List.all_eq_true]at h
 have h1:=h i (List.mem_range.2 hi)
 simp only[List.getElem?_eq_getElem hi]at h1
 exact⟨_,h1⟩
theorem b1p {c:List Kind} {st:List Part} (h:a4S c st=true) {p:Part} (hp:p∈st):Srt Prp.key p.props∧p.props.length≤60:=by
 simp only[a4S,Bool.and_eq_true]at h
 obtain⟨pre,h1⟩:=a3P h.2 hp
 simp only[a4r,c1k,Bool.and_eq_true,Bool.not_eq_true',Bool.or_eq_false_iff,Bool.not_eq_false']at h1
 have h2:=h1.1.1
 simp only[a5J,a4X,Bool.and_eq_true,Bool.not_eq_true',Bool.or_eq_false_iff,decide_eq_false_iff_not]at h2
 exact⟨Srt.of_ord h2.2.1.1.1,oM⟩
theorem b3a {st:List Part} {s:ByteArray} {p:Part} (h:a0e st s=some p):p∈st:=List.mem_of_find?_eq_some h
theorem b0U {st:List Part} {e:Evt} (h:(a0e st e.part).isSome=true):a3i st e∈st:=by
 obtain⟨p,hp⟩:=Option.isSome_iff_exists.1 h;have:a3i st e=p:=by rw[a3i,hp];rfl
 rw[this];exact b3a hp
end Go.Sx
set_option linter.all false
namespace Go.Sx
open Go
class Day (α:Type) where
 day:α→Int
 ch:α→List Value
 k:Nat
 len:∀x,(ch x).length=k
instance:Day Evt:=⟨Evt.day,Evt.cells,14,fun _=>rfl⟩
variable {α:Type} [Day α]
def a1u (l:List α):List (List Value):=l.map Day.ch
theorem c2e (l:List α):Uk (Day.k α) (a1u l):=fun c hc=>by obtain⟨e,_,rfl⟩:=List.mem_map.1 hc;exact Day.len e
theorem a0t (l:List α):(a1u l).length=l.length:=by simp[a1u]
theorem a1s {l:List α} {i:Nat} (h:i<l.length):(a1u l)[i]? = some (Day.ch l[i]):=by simp[a1u,h]
theorem a6p (l:List α) (i:Nat) (e:α):(a1u l).set i (Day.ch e)=a1u (l.set i e):=by simp[a1u,List.map_set]
theorem a0k (l:List Evt):Uk 14 (a1u l):=c2e l
theorem a7o {I:IMap} (l:List Evt):FlatC I (a1u l) l:=by
 induction l with
 |nil=>exact .nil
 |cons e l ih=>exact .cons rfl ih
theorem c2c {l:List Evt} {rest:List (List Value)} {i:Nat} (h:i<l.length):(a1u l++rest)[i]? = some (Day.ch l[i]):=by
 rw[List.getElem?_append_left (by rw[a0t];exact h)];exact a1s h
theorem c2d (l:List Evt) (rest:List (List Value)) (i:Nat) (h:i<l.length) (e:Evt):(a1u l++rest).set i (Day.ch e)=a1u (l.set i e)++rest:=by
 rw[List.set_append_left _ _ (by rw[a0t];exact h),a6p]
theorem b5Z {I:IMap} {xss:List (List Value)} {l:List Evt} (h:FlatC I xss l):xss=a1u l:=by
 induction h with
 |nil=>rfl
 |cons h1 _ ih=>rw[ih];simp only[a1u,List.map_cons];rw[show _=_ from h1];rfl
def swp (l:List α) (i j:Nat):List α:=match l[i]?,l[j]? with
 |some x,some y=>(l.set i y).set j x
 |_,_=>l
theorem b2z {l:List α} {i j:Nat} (hi:i<l.length) (hj:j<l.length):swp l i j=(l.set i l[j]).set j l[i]:=by simp[swp,hi,hj]
theorem b7f (l:List α) (i j:Nat):(swp l i j).length=l.length:=by unfold swp;split<;>simp
def a0s (l:List α) (k:Nat):Int:=(l[k]?.map Day.day).getD 0
theorem a1e {l:List α} {k:Nat} (h:k<l.length):a0s l k=Day.day l[k]:=by simp[a0s,h]
theorem b1k {l:List α} {i j:Nat} (hi:i<l.length) (hj:j<l.length) (k:Nat):(swp l i j)[k]? = if k=j then l[i]? else if k=i then l[j]? else l[k]?:=by
 rw[b2z hi hj,List.getElem?_set,List.getElem?_set]
 by_cases h1:j=k
 ·subst h1;simp[hj,hi]
 ·have:¬k=j:=fun e=>h1 e.symm
  by_cases h2:i=k
  ·subst h2;simp[h1,this,hi,hj]
  ·have h3:¬k=i:=fun e=>h2 e.symm
   simp[h1,h2,this,h3]
theorem c4q {l:List α} {i j:Nat} (hi:i<l.length) (hj:j<l.length) (k:Nat):a0s (swp l i j) k=if k=j then a0s l i else if k=i then a0s l j else a0s l k:=by
 unfold a0s;rw[b1k hi hj]
 split
 ·rfl
 ·split<;>rfl
def Stb (l m:List α):Prop:=l.length=m.length∧∀d:Int,m.filter (fun e=>decide (Day.day e=d))=l.filter (fun e=>decide (Day.day e=d))
theorem Stb.refl (l:List α):Stb l l:=⟨rfl,fun _=>rfl⟩
theorem Stb.trans {l m k:List α} (h:Stb l m) (h':Stb m k):Stb l k:=⟨h.1.trans h'.1,fun d=>(h'.2 d).trans (h.2 d)⟩
theorem b6g (a b:List α) (d:Int) (h:∀x∈a,∀y∈b,Day.day x≠Day.day y):(b++a).filter (fun e=>decide (Day.day e=d))=(a++b).filter (fun e=>decide (Day.day e=d)):=by
 rw[List.filter_append,List.filter_append]
 by_cases ha:a.filter (fun e=>decide (Day.day e=d))=[]
 ·rw[ha];simp
 ·have hb:b.filter (fun e=>decide (Day.day e=d))=[]:=by
   rw[List.filter_eq_nil_iff];intro y hy;obtain⟨x,hx⟩:=List.exists_mem_of_ne_nil _ ha;rw[List.mem_filter]at hx
   have:=h x hx.1 y hy
   simp at hx ⊢
   omega
  rw[hb];simp
theorem Stb.block {p a b s:List α} (h:∀x∈a,∀y∈b,Day.day x≠Day.day y):Stb (p++(a++(b++s))) (p++(b++(a++s))):=by
 refine⟨by simp;omega,fun d=>?_⟩;have:=b6g a b d h;rw[List.filter_append,List.filter_append]at this
 simp only[List.filter_append]
 congr 1
 rw[←List.append_assoc,this,List.append_assoc]
def a9H (l:List α) (a b:Nat):Nat→List α
 |0=>l
 |k+1=>swp (a9H l a b k) (a+k) (b+k)
theorem a3R (l:List α) (a b:Nat):∀k,(a9H l a b k).length=l.length
 |0=>rfl
 |k+1=>by rw[a9H,b7f,a3R l a b k]
theorem a4K {l:List α} {i j:Nat} (hi:i<l.length) (hj:j<l.length):((a1u l).set i (Day.ch l[j])).set j (Day.ch l[i])=a1u (swp l i j):=by
 rw[a6p,a6p,b2z hi hj]
theorem a3X {l:List α} {i j:Nat} (hi:i<l.length) (hj:j<l.length) (hij:i≠j):((a1u l).set j (Day.ch l[i])).set i (Day.ch l[j])=a1u (swp l i j):=by
 rw[a6p,a6p,b2z hi hj,List.set_comm _ _ hij.symm]
theorem d5I (m:List α) {j:Nat} (hj:j+1<m.length):m=m.take j++([m[j]]++([m[j+1]]++m.drop (j+2))):=by
 conv=>lhs;rw[←List.take_append_drop j m,List.drop_eq_getElem_cons oM,List.drop_eq_getElem_cons hj]
 rfl
theorem d2D (m:List α) {j:Nat} (hj:j+1<m.length):swp m (j+1) j=m.take j++([m[j+1]]++([m[j]]++m.drop (j+2))):=by
 rw[b2z hj oM]
 apply List.ext_getElem?
 intro k;rw[List.getElem?_set,List.getElem?_set,List.getElem?_append]
 simp only[List.length_take,List.length_set]
 have hmin:min j m.length=j:=oM;rw[hmin]
 by_cases h1:k<j
 ·simp[h1,show ¬j=k from oM,show ¬j+1=k from oM,List.getElem?_take]
 ·rw[if_neg h1];obtain⟨q,rfl⟩:∃q,k=j+q:=⟨k-j,oM⟩;rw[Nat.add_sub_cancel_left]
  match q with
  |0=>simp;omega
  |1=>simp[hj]
  |q+2=>
   simp only[show ¬j=j+(q+2) from oM,show ¬j+1=j+(q+2) from oM,if_false]
   simp[List.getElem?_drop]
   congr 1
   omega
theorem d2E {l m:List α} {j:Nat} (h:Stb l m) (hj:j+1<m.length) (hd:a0s m (j+1)<a0s m j):Stb l (swp m (j+1) j):=by
 refine h.trans ?_;have e:=d5I m hj;rw[d2D m hj]
 conv=>arg 1;rw[e]
 refine Stb.block fun x hx y hy=>?_
 rw[List.mem_singleton]at hx hy
 subst hx hy;rw[a1e hj,a1e oM]at hd
 omega
theorem c8n {l m:List α} {j:Nat} (h:Stb l m) (h0:0<j) (hj:j<m.length) (hd:a0s m j<a0s m (j-1)):Stb l (swp m j (j-1)):=by
 obtain⟨q,rfl⟩:∃q,j=q+1:=⟨j-1,oM⟩;exact d2E h hj hd
theorem a7i {a b:Int}:a9t a b<0↔a<b:=by
 unfold a9t
 split
 ·rename_i h;simp[h]
 ·rename_i h;split<;>simp[h]
structure Seg (l m:List α) (a b:Nat):Prop where
 stb:Stb l m
 out:∀k,k<a∨b≤k→m[k]? = l[k]?
 srt:∀p q,a≤p→p<q→q<b→a0s m p≤a0s m q
theorem Seg.one (l:List α) (a:Nat):Seg l l a (a+1):=⟨Stb.refl l,fun _ _=>rfl,fun p q h1 h2 h3=>oM⟩
theorem Seg.none {l:List α} {a b:Nat} (h:b≤a+1):Seg l l a b:=⟨Stb.refl l,fun _ _=>rfl,fun p q h1 h2 h3=>oM⟩
structure Ins (l m:List α) (a i j:Nat):Prop where
 stb:Stb l m
 out:∀k,k<a∨i+1≤k→m[k]? = l[k]?
 srt:∀p q,a≤p→p<q→q≤i→q≠j→a0s m p≤a0s m q
theorem Ins.start {l m:List α} {a i:Nat} (h:Seg l m a i):Ins l m a i i:=⟨h.stb,fun k hk=>h.out k oM,fun p q h1 h2 h3 h4=>h.srt p q h1 h2 oM⟩
theorem Ins.step {l m:List α} {a i j:Nat} (h:Ins l m a i j) (h1:a<j) (h2:j≤i) (h3:i<m.length) (hd:a0s m j<a0s m (j-1)):Ins l (swp m j (j-1)) a i (j-1):=by
 refine⟨c8n h.stb oM oM hd,fun k hk=>?_,fun p q p1 p2 p3 p4=>?_⟩
 ·rw[b1k oM oM,if_neg oM,if_neg oM];exact h.out k hk
 ·rw[c4q oM oM,c4q oM oM];rw[if_neg p4]
  by_cases hq:q=j
  ·subst hq;rw[if_pos rfl]
   by_cases hp:p=q-1
   ·rw[if_pos hp];omega
   ·rw[if_neg hp,if_neg oM];exact h.srt p (q-1) p1 oM oM oM
  ·rw[if_neg hq]
   by_cases hp:p=j-1
   ·rw[if_pos hp];exact h.srt j q oM oM p3 hq
   ·rw[if_neg hp]
    by_cases hp2:p=j
    ·rw[if_pos hp2];exact h.srt (j-1) q oM oM p3 hq
    ·rw[if_neg hp2];exact h.srt p q p1 p2 p3 hq
theorem Ins.done {l m:List α} {a i j:Nat} (h:Ins l m a i j) (h1:a≤j) (h2:j≤i) (hd:j=a∨a0s m (j-1)≤a0s m j):Seg l m a (i+1):=by
 refine⟨h.stb,fun k hk=>h.out k hk,fun p q p1 p2 p3=>?_⟩
 by_cases hq:q=j
 ·subst hq
  rcases hd with hd|hd
  ·omega
  ·rcases Nat.lt_or_ge p (q-1) with hp|hp
   ·exact Int.le_trans (h.srt p (q-1) p1 hp oM oM) hd
   ·obtain rfl:p=q-1:=oM;exact hd
 ·exact h.srt p q p1 p2 oM hq
theorem Seg.len {l m:List α} {a b:Nat} (h:Seg l m a b):m.length=l.length:=h.stb.1.symm
theorem Ins.len {l m:List α} {a i j:Nat} (h:Ins l m a i j):m.length=l.length:=h.stb.1.symm
def c8m (f:Nat→Option α) (a b n k:Nat):Option α:=if a≤k∧k<a+n then f (k-a+b) else if b≤k∧k<b+n then f (k-b+a) else f k
def a8K (f:Nat→Option α) (m i j k:Nat):Option α:=if m-i≤k∧k<m-i+j then f (k+i) else if m-i+j≤k∧k<m+j then f (k-j) else f k
theorem a5F {l:List α} {a b:Nat}:∀(n:Nat),a+n≤b→b+n≤l.length→∀k,(a9H l a b n)[k]? = c8m (l[·]?) a b n k
 |0,_,_,k=>by
  simp only[a9H,c8m]
  rw[if_neg oM,if_neg oM]
 |n+1,h1,h2,k=>by
  have hl:=a3R l a b n;rw[a9H,b1k oM oM];have ih:=a5F n (l:=l) (a:=a) (b:=b) oM oM;rw[ih,ih,ih]
  simp only[c8m]
  repeat' split
  all_goals first
   |(exfalso;omega)
   |rfl
   |(congr 1;omega)
theorem c9o {f g:Nat→Option α} {m i j:Nat} (hm:i≤m) (h:j<i) (hg:∀k,g k=c8m f (m-i) m j k) (k:Nat):a8K g m (i-j) j k=a8K f m i j k:=by
 simp only[a8K,hg,c8m]
 repeat' split
 all_goals first
  |(exfalso;omega)
  |rfl
  |(congr 1;omega)
theorem c9p {f g:Nat→Option α} {m i j:Nat} (hm:i≤m) (h:i<j) (hg:∀k,g k=c8m f (m-i) (m+j-i) i k) (k:Nat):a8K g m i (j-i) k=a8K f m i j k:=by
 simp only[a8K,hg,c8m]
 repeat' split
 all_goals first
  |(exfalso;omega)
  |rfl
  |(congr 1;omega)
theorem c9n {f g:Nat→Option α} {m i:Nat} (hm:i≤m) (hg:∀k,g k=c8m f (m-i) m i k) (k:Nat):g k=a8K f m i i k:=by
 simp only[a8K,hg,c8m]
 repeat' split
 all_goals first
  |(exfalso;omega)
  |rfl
  |(congr 1;omega)
end Go.Sx
set_option linter.all false
namespace Go.Sx
open Go
variable {α:Type} [Day α]
def pc (l:List α) (a b:Nat):List α:=(l.drop a).take (b-a)
theorem b8H {l:List α} {a b:Nat} (k:Nat):(pc l a b)[k]? = if k<b-a then l[a+k]? else none:=by
 rw[pc,List.getElem?_take,List.getElem?_drop]
theorem c9k {l:List α} {a b:Nat} (h:b≤l.length):(pc l a b).length=b-a:=by rw[pc,List.length_take,List.length_drop];omega
theorem c3C {l:List α} {a b:Nat} {x:α} (hx:x∈pc l a b):∃p,a≤p∧p<b∧l[p]? = some x:=by
 obtain⟨k,hk⟩:=List.getElem?_of_mem hx;rw[b8H]at hk
 split at hk
 ·exact⟨a+k,oM,oM,hk⟩
 ·cases hk
theorem d4C {l:List α} {a b p:Nat} {x:α} (h1:a≤p) (h2:p<b) (hx:l[p]? = some x):x∈pc l a b:=by
 refine List.mem_of_getElem? (i:=p-a) ?_;rw[b8H,if_pos oM,show a+(p-a)=p from by omega];exact hx
theorem d6C {l:List α} {a b:Nat} (h1:a≤b) (h2:b≤l.length):l=l.take a++(pc l a b++l.drop b):=by
 have e:pc l a b++l.drop b=l.drop a:=by
  have:=List.take_append_drop (b-a) (l.drop a);rw[List.drop_drop,show a+(b-a)=b from by omega]at this
  exact this
 rw[e,List.take_append_drop]
theorem b7K {l:List α} {p:Nat} {x:α} (h:l[p]? = some x):a0s l p=Day.day x:=by simp[a0s,h]
theorem c4f {l m:List α} {a b:Nat} (hs:Stb l m) (ho:∀k,k<a∨b≤k→m[k]? = l[k]?) (h1:a≤b) (h2:b≤l.length) {p:Nat} (hp1:a≤p) (hp2:p<b):∃q,a≤q∧q<b∧a0s m p=a0s l q:=by
 have hml:m.length=l.length:=hs.1.symm
 have et:m.take a=l.take a:=by
  apply List.ext_getElem?
  intro k;rw[List.getElem?_take,List.getElem?_take]
  split
  ·exact ho k (.inl oM)
  ·rfl
 have ed:m.drop b=l.drop b:=by
  apply List.ext_getElem?
  intro k;rw[List.getElem?_drop,List.getElem?_drop];exact ho _ (.inr oM)
 have hx:m[p]? = some m[p]:=List.getElem?_eq_getElem oM;obtain⟨y,hy⟩:∃y,y=m[p]:=⟨_,rfl⟩;rw[←hy]at hx
 have key:∀d:Int,(pc m a b).filter (fun e=>decide (Day.day e=d))=(pc l a b).filter (fun e=>decide (Day.day e=d)):=by
  intro d;have hf:=hs.2 d
  rw[show l.filter (fun e=>decide (Day.day e=d))=(l.take a++(pc l a b++l.drop b)).filter (fun e=>decide (Day.day e=d)) from congrArg _ (d6C h1 h2),
   show m.filter (fun e=>decide (Day.day e=d))=(m.take a++(pc m a b++m.drop b)).filter (fun e=>decide (Day.day e=d)) from congrArg _ (d6C h1 oM),et,ed]at hf
  simp only[List.filter_append]at hf
  exact List.append_cancel_right (List.append_cancel_left hf)
 have hmem:y∈(pc m a b).filter (fun e=>decide (Day.day e=Day.day y)):=List.mem_filter.2 ⟨d4C hp1 hp2 hx,by simp⟩;rw[key]at hmem
 obtain⟨hm1,hm2⟩:=List.mem_filter.1 hmem;obtain⟨q,q1,q2,q3⟩:=c3C hm1;exact⟨q,q1,q2,by rw[b7K hx,b7K q3]⟩
theorem c7O {l k:List α} {a m b:Nat} (h1:a≤m) (h2:m≤b) (h3:b≤l.length) (hk:k.length=l.length) (hr:∀q,k[q]? = a8K (l[·]?) m (m-a) (b-m) q):k=l.take a++(pc l m b++(pc l a m++l.drop b)):=by
 apply List.ext_getElem?
 intro q;rw[hr,a8K];have l1:(l.take a).length=a:=by rw[List.length_take];omega
 have l2:=c9k (l:=l) (a:=m) (b:=b) h3;have l3:=c9k (l:=l) (a:=a) (b:=m) oM;rw[List.getElem?_append,l1,List.getElem?_append,l2,List.getElem?_append,l3,List.getElem?_take,b8H,b8H,List.getElem?_drop]
 repeat' split
 all_goals first
  |(exfalso;omega)
  |rfl
  |(congr 1;omega)
theorem d2b {l k:List α} {a m b:Nat} (h1:a≤m) (h2:m≤b) (h3:b≤l.length) (hk:k.length=l.length) (hr:∀q,k[q]? = a8K (l[·]?) m (m-a) (b-m) q) (hd:∀p q,a≤p→p<m→m≤q→q<b→a0s l q<a0s l p):Stb l k:=by
 have e:=c7O h1 h2 h3 hk hr
 have e2:l=l.take a++(pc l a m++(pc l m b++l.drop b)):=by
  conv=>lhs;rw[d6C (l:=l) (a:=a) (b:=m) h1 oM]
  congr 2
  have:=d6C (l:=l.drop m) (a:=0) (b:=b-m) oM (by rw[List.length_drop];omega)
  simp only[List.take_zero,List.nil_append,List.drop_drop,show m+(b-m)=b from by omega]at this
  exact this
 rw[e]
 conv=>arg 1;rw[e2]
 refine Stb.block fun x hx y hy=>?_
 obtain⟨p,p1,p2,p3⟩:=c3C hx;obtain⟨q,q1,q2,q3⟩:=c3C hy;have:=hd p q p1 p2 q1 q2;rw[b7K p3,b7K q3]at this
 omega
theorem d2a {l k:List α} {m i j:Nat} (hr:∀q,k[q]? = a8K (l[·]?) m i j q) (q:Nat):a0s k q=if m-i≤q∧q<m-i+j then a0s l (q+i) else if m-i+j≤q∧q<m+j then a0s l (q-j) else a0s l q:=by
 unfold a0s;rw[hr,a8K]
 repeat' split
 all_goals rfl
theorem c7T {l m:List α} {a c b:Nat} (hs:Stb l m) (ho:∀k,k<a∨b≤k→m[k]? = l[k]?) (h1:∀p q,a≤p→p<q→q<c→a0s m p≤a0s m q) (h2:∀p q,c≤p→p<q→q<b→a0s m p≤a0s m q) (h3:∀p q,a≤p→p<c→c≤q→q<b→a0s m p≤a0s m q):Seg l m a b:=
 ⟨hs,ho,fun p q p1 p2 p3=>by
  rcases Nat.lt_or_ge q c with hq|hq
  ·exact h1 p q p1 p2 hq
  ·rcases Nat.lt_or_ge p c with hp|hp
   ·exact h3 p q p1 hp hq p3
   ·exact h2 p q hp p2 p3⟩
def SrtD (l:List α) (a b:Nat):Prop:=∀p q,a≤p→p<q→q<b→a0s l p≤a0s l q
theorem SrtD.le {l:List α} {a b:Nat} (h:SrtD l a b) {p q:Nat} (h1:a≤p) (h2:p≤q) (h3:q<b):a0s l p≤a0s l q:=by
 rcases Nat.lt_or_ge p q with hp|hp
 ·exact h p q h1 hp h3
 ·obtain rfl:p=q:=oM;exact Int.le_refl _
theorem SrtD.sub {l:List α} {a b a' b':Nat} (h:SrtD l a b) (h1:a≤a') (h2:b'≤b):SrtD l a' b':=fun p q p1 p2 p3=>h p q oM p2 oM
theorem SrtD.none {l:List α} {a b:Nat} (h:b≤a+1):SrtD l a b:=fun p q h1 h2 h3=>oM
theorem Seg.toD {l m:List α} {a b:Nat} (h:Seg l m a b):SrtD m a b:=h.srt
structure Rot (l k:List α) (a s m e b:Nat):Prop where
 stb:Stb l k
 out:∀q,q<s∨e≤q→k[q]? = l[q]?
 day:∀q,a0s k q=if s≤q∧q<s+(e-m) then a0s l (q+(m-s)) else if s+(e-m)≤q∧q<e then a0s l (q-(e-m)) else a0s l q
theorem Rot.of {l k:List α} {a s m e b:Nat} (h1:s≤m) (h2:m≤e) (h3:e≤l.length) (hk:k.length=l.length) (hr:∀q,k[q]? = a8K (l[·]?) m (m-s) (e-m) q) (hd:∀p q,s≤p→p<m→m≤q→q<e→a0s l q<a0s l p):Rot l k a s m e b:=by
 refine⟨d2b h1 h2 h3 hk hr hd,fun q hq=>?_,fun q=>?_⟩
 ·rw[hr,a8K,if_neg oM,if_neg oM]
 ·rw[d2a hr,show m-(m-s)=s from oM,show m+(e-m)=e from by omega]
theorem Rot.id {l:List α} {a s m e b:Nat} (h:s=m∨e=m) (h1:s≤m) (h2:m≤e):Rot l l a s m e b:=by
 refine⟨Stb.refl l,fun _ _=>rfl,fun q=>?_⟩
 rcases h with rfl|rfl
 ·split
  ·congr 1;omega
  ·split
   ·exfalso;omega
   ·rfl
 ·split
  ·exfalso;omega
  ·split
   ·congr 1;omega
   ·rfl
theorem Rot.len {l k:List α} {a s m e b:Nat} (h:Rot l k a s m e b):k.length=l.length:=h.stb.1.symm
theorem Rot.p1 {l k:List α} {a s m e b:Nat} (h:Rot l k a s m e b) (h1:SrtD l a m) (g1:s≤m):SrtD k a s:=fun p q p1 p2 p3=>by
 rw[h.day,h.day,if_neg oM,if_neg oM,if_neg oM,if_neg oM];exact h1 p q p1 p2 oM
theorem Rot.p2 {l k:List α} {a s m e b:Nat} (h:Rot l k a s m e b) (h2:SrtD l m b) (g1:s≤m) (g2:m≤e) (g3:e≤b):SrtD k s (s+(e-m)):=fun p q p1 p2 p3=>by
 rw[h.day,h.day,if_pos oM,if_pos oM];exact h2 _ _ oM oM oM
theorem Rot.p3 {l k:List α} {a s m e b:Nat} (h:Rot l k a s m e b) (h1:SrtD l a m) (g0:a≤s) (g1:s≤m) (g2:m≤e):SrtD k (s+(e-m)) e:=fun p q p1 p2 p3=>by
 rw[h.day,h.day,if_neg oM,if_pos oM,if_neg oM,if_pos oM];exact h1 _ _ oM oM oM
theorem Rot.p4 {l k:List α} {a s m e b:Nat} (h:Rot l k a s m e b) (h2:SrtD l m b) (g1:s≤m) (g2:m≤e):SrtD k e b:=fun p q p1 p2 p3=>by
 rw[h.day,h.day,if_neg oM,if_neg oM,if_neg oM,if_neg oM];exact h2 p q oM p2 p3
theorem Rot.cross {l k:List α} {a s m e b:Nat} (h:Rot l k a s m e b) (h1:SrtD l a m) (h2:SrtD l m b) (g0:a≤s) (g1:s≤m) (g2:m≤e) (g3:e≤b)
  (hx:∀p q,s≤p→p<m→m≤q→q<e→a0s l q<a0s l p) (hy:∀p q,a≤p→p<s→e≤q→q<b→a0s l p≤a0s l q) (p q:Nat) (p1:a≤p) (p2:p<s+(e-m)) (q1:s+(e-m)≤q) (q2:q<b):a0s k p≤a0s k q:=by
 rw[h.day p,h.day q]
 by_cases hp:s≤p
 ·rw[if_pos ⟨hp,p2⟩]
  by_cases hq:q<e
  ·rw[if_neg oM,if_pos ⟨q1,hq⟩];exact Int.le_of_lt (hx _ _ oM oM oM oM)
  ·rw[if_neg oM,if_neg oM];exact h2.le oM oM q2
 ·rw[if_neg oM,if_neg oM]
  by_cases hq:q<e
  ·rw[if_neg oM,if_pos ⟨q1,hq⟩];exact h1.le p1 oM oM
  ·rw[if_neg oM,if_neg oM];exact hy p q p1 oM oM q2
theorem Rot.done {l k k1 k2:List α} {a s m e b c:Nat} (h:Rot l k a s m e b) (h1:SrtD l a m) (h2:SrtD l m b) (g0:a≤s) (g1:s≤m) (g2:m≤e) (g3:e≤b) (g4:b≤l.length) (hc:s+(e-m)=c)
  (hx:∀p q,s≤p→p<m→m≤q→q<e→a0s l q<a0s l p) (hy:∀p q,a≤p→p<s→e≤q→q<b→a0s l p≤a0s l q) (s1:Seg k k1 a c) (s2:Seg k1 k2 c b):Seg l k2 a b:=by
 subst hc;have hl:=h.len;have hl1:=s1.len;have d1:∀p,p<s+(e-m)→k2[p]? = k1[p]?:=fun p hp=>s2.out p (.inl hp)
 have d2:∀p,s+(e-m)≤p→k1[p]? = k[p]?:=fun p hp=>s1.out p (.inr hp)
 have e1:∀p,p<s+(e-m)→a0s k2 p=a0s k1 p:=fun p hp=>by unfold a0s;rw[d1 p hp]
 refine c7T (c:=s+(e-m)) (h.stb.trans (s1.stb.trans s2.stb)) (fun q hq=>?_) (fun p q p1 p2 p3=>?_) (fun p q p1 p2 p3=>s2.srt p q p1 p2 p3) fun p q p1 p2 p3 p4=>?_
 ·rw[s2.out q oM,s1.out q oM,h.out q oM]
 ·rw[e1 p oM,e1 q p3];exact s1.srt p q p1 p2 p3
 ·rw[e1 p p2];obtain⟨p',a1,a2,a3⟩:=c4f s1.stb s1.out oM oM p1 p2;obtain⟨q',b1,b2,b3⟩:=c4f s2.stb s2.out oM oM p3 p4;have:a0s k1 q'=a0s k q':=by unfold a0s;rw[d2 q' b1]
  rw[a3,b3,this];exact h.cross h1 h2 g0 g1 g2 g3 hx hy p' q' a1 a2 b1 b2
def bub (l:List α) (a:Nat):Nat→List α
 |0=>l
 |k+1=>swp (bub l a k) (a+k) (a+k+1)
theorem b0c (l:List α) (a:Nat):∀k,(bub l a k).length=l.length
 |0=>rfl
 |k+1=>by rw[bub,b7f,b0c l a k]
theorem c1o {l:List α} {a:Nat}:∀(n:Nat),a+n<l.length→∀k,(bub l a n)[k]? = a8K (l[·]?) (a+1) 1 n k
  | 0, _, k => by simp only [bub, a8K]; rw [if_neg oM]; split; · congr 1
                  · rfl
  |n+1,h,k=>by
    have hl:=b0c l a n;rw[bub,b1k oM oM];have ih:=c1o n (l:=l) (a:=a) oM;rw[ih,ih,ih]
    simp only[a8K]
    repeat' split
    all_goals first
      |(exfalso;omega)
      |rfl
      |(congr 1;omega)
def bud (l:List α) (m:Nat):Nat→List α
 |0=>l
 |k+1=>swp (bud l m k) (m-k) (m-k-1)
theorem b0d (l:List α) (m:Nat):∀k,(bud l m k).length=l.length
 |0=>rfl
 |k+1=>by rw[bud,b7f,b0d l m k]
theorem c1p {l:List α} {m:Nat} (hm:m<l.length):∀(n:Nat),n≤m→∀k,(bud l m n)[k]? = a8K (l[·]?) m n 1 k
  | 0, _, k => by simp only [bud, a8K]; split; · congr 1
                  · split
                    · exfalso;omega
                    · rfl
  |n+1,h,k=>by
    have hl:=b0d l m n;rw[bud,b1k oM oM];have ih:=c1p hm n oM;rw[ih,ih,ih]
    simp only[a8K]
    repeat' split
    all_goals first
      |(exfalso;omega)
      |rfl
      |(congr 1;omega)
theorem b8n {l:List α} {a b i:Nat} (hs:SrtD l (a+1) b) (h1:a+1≤i) (h2:i≤b) (h3:b≤l.length) (hlo:∀q,a+1≤q→q<i→a0s l q<a0s l a) (hhi:∀q,i≤q→q<b→a0s l a≤a0s l q):Seg l (bub l a (i-1-a)) a b:=by
  have hR:Rot l (bub l a (i-1-a)) a a (a+1) i b:=Rot.of oM h1 oM (b0c _ _ _) (fun q=>by rw[c1o _ oM];congr 1<;>omega)
    (fun p q p1 p2 p3 p4 => by obtain rfl : p = a := oM
                               exact hlo q p3 p4)
  refine⟨hR.stb,fun k hk=>hR.out k oM,fun p q p1 p2 p3=>?_⟩;rw[hR.day p,hR.day q]
  by_cases hp:p<i-1
  · rw[if_pos oM]
    by_cases hq:q<i-1
    · rw[if_pos oM];exact hs _ _ oM oM oM
    · by_cases hq2:q=i-1
      · rw[if_neg oM,if_pos oM,show q-(i-(a+1))=a from by omega];exact Int.le_of_lt (hlo _ oM oM)
      · rw[if_neg oM,if_neg oM];exact hs _ _ oM oM oM
  · by_cases hp2:p=i-1
    · rw[if_neg oM,if_pos oM,if_neg oM,if_neg oM,show p-(i-(a+1))=a from by omega];exact hhi _ oM p3
    · rw[if_neg oM,if_neg oM,if_neg oM,if_neg oM];exact hs _ _ oM oM oM
theorem b2f {l:List α} {a m i:Nat} (hs:SrtD l a m) (h1:a≤i) (h2:i≤m) (h3:m<l.length) (hlo:∀q,a≤q→q<i→a0s l q≤a0s l m) (hhi:∀q,i≤q→q<m→a0s l m<a0s l q):Seg l (bud l m (m-i)) a (m+1):=by
  have hR:Rot l (bud l m (m-i)) a i m (m+1) (m+1):=Rot.of h2 oM oM (b0d _ _ _) (fun q=>by rw[c1p h3 _ oM];congr 1;omega)
    (fun p q p1 p2 p3 p4 => by obtain rfl : q = m := oM
                               exact hhi p p1 p2)
  refine⟨hR.stb,fun k hk=>hR.out k oM,fun p q p1 p2 p3=>?_⟩;rw[hR.day p,hR.day q]
  by_cases hp:p<i
  · rw[if_neg oM,if_neg oM]
    by_cases hq:q<i
    · rw[if_neg oM,if_neg oM];exact hs _ _ oM oM oM
    · by_cases hq2:q=i
      · rw[if_pos oM,show q+(m-i)=m from by omega];exact hlo _ oM oM
      · rw[if_neg oM,if_pos oM];exact hs _ _ oM oM oM
  · by_cases hp2:p=i
    · rw[if_pos oM,if_neg oM,if_pos oM,show p+(m-i)=m from by omega];exact Int.le_of_lt (hhi _ oM oM)
    · rw[if_neg oM,if_pos oM,if_neg oM,if_pos oM];exact hs _ _ oM oM oM
theorem Seg.refl' {k:List α} {a c:Nat} (h:SrtD k a c):Seg k k a c:=⟨Stb.refl k,fun _ _=>rfl,h⟩
theorem Rot.left {l k:List α} {a s m e b c:Nat} (h:Rot l k a s m e b) (h1:SrtD l a m) (h2:SrtD l m b) (g1:s≤m) (g2:m≤e) (g3:e≤b) (hc:s+(e-m)=c) (hn:¬(a<s∧s<c)) (g0:a≤s):SrtD k a c:=by
 subst hc
 by_cases hs:a=s
 ·subst hs;exact h.p2 h2 g1 g2 g3
 ·exact (h.p1 h1 g1).sub (Nat.le_refl _) oM
theorem Rot.right {l k:List α} {a s m e b c:Nat} (h:Rot l k a s m e b) (h1:SrtD l a m) (h2:SrtD l m b) (g0:a≤s) (g1:s≤m) (g2:m≤e) (hc:s+(e-m)=c) (hn:¬(c<e∧e<b)) (g3:e≤b):SrtD k c b:=by
 subst hc
 by_cases hs:e=b
 ·subst hs;exact h.p3 h1 g0 g1 g2
 ·exact (h.p4 h2 g1 g2).sub oM (Nat.le_refl _)
theorem Seg.keepD {k k1:List α} {a c p q:Nat} (h:Seg k k1 a c) (hc:c≤p) (hs:SrtD k p q):SrtD k1 p q:=fun x y h1 h2 h3=>by
 have e:∀z,c≤z→a0s k1 z=a0s k z:=fun z hz=>by unfold a0s;rw[h.out z (.inr hz)]
 rw[e x oM,e y oM];exact hs x y h1 h2 h3
theorem c4j {l:List α} {a m b c S R s:Nat} (m1:SrtD l a m) (m2:SrtD l m b) (ham:a<m) (hmb:m<b) (hc:c=(a+b) / 2) (hS:(c<m∧S=c+m-b∧R=c)∨(m≤c∧S=a∧R=m)) (hs1:S≤s) (hs2:s≤R)
  (lo:∀q,S≤q→q<s→a0s l q≤a0s l (c+m-1-q)) (hi:∀q,s≤q→q<R→a0s l (c+m-1-q)<a0s l q) :
  (∀p q,s≤p→p<m→m≤q→q<c+m-s→a0s l q<a0s l p)∧(∀p q,a≤p→p<s→c+m-s≤q→q<b→a0s l p≤a0s l q):=by
 refine⟨fun p q p1 p2 q1 q2=>?_,fun p q p1 p2 q1 q2=>?_⟩
 ·have hlt:s<R:=oM;have h1:=hi s (Nat.le_refl _) hlt;have h2:=m1.le (p:=s) (q:=p) oM p1 p2;have h3:=m2.le (p:=q) (q:=c+m-1-s) q1 oM oM
  omega
 ·have hlt:S<s:=oM;have h1:=lo (s-1) oM oM;have h2:=m1.le (p:=p) (q:=s-1) p1 oM oM;have h3:=m2.le (p:=c+m-1-(s-1)) (q:=q) oM oM q2
  omega
theorem c9s {l:List α} {a m b c S R r h:Nat} (m1:SrtD l a m) (m2:SrtD l m b) (ham:a<m) (hmb:m<b) (hc:c=(a+b) / 2) (hS:(c<m∧S=c+m-b∧R=c)∨(m≤c∧S=a∧R=m)) (h1:S≤h) (h2:h<r) (h3:r≤R)
  (hd:a0s l h≤a0s l (c+m-1-h)) (q:Nat) (q1:S≤q) (q2:q<h+1):a0s l q≤a0s l (c+m-1-q):=by
 have e1:=m1.le (p:=q) (q:=h) oM oM oM;have e2:=m2.le (p:=c+m-1-h) (q:=c+m-1-q) oM oM oM
 omega
theorem c9r {l:List α} {a m b c S R s h:Nat} (m1:SrtD l a m) (m2:SrtD l m b) (ham:a<m) (hmb:m<b) (hc:c=(a+b) / 2) (hS:(c<m∧S=c+m-b∧R=c)∨(m≤c∧S=a∧R=m)) (h1:S≤s) (h2:s≤h) (h3:h<R)
  (hd:a0s l (c+m-1-h)<a0s l h) (q:Nat) (q1:h≤q) (q2:q<R):a0s l (c+m-1-q)<a0s l q:=by
 have e1:=m1.le (p:=h) (q:=q) oM oM oM;have e2:=m2.le (p:=c+m-1-q) (q:=c+m-1-h) oM oM oM
 omega
theorem c1N {l:List α} {i j:Nat} {hi:i<l.length} {hj:j<l.length} (h:a9t (Day.day l[i]) (Day.day l[j])<0):a0s l i<a0s l j:=by
 rw[a7i]at h;rw[a1e hi,a1e hj];exact h
theorem c1M {l:List α} {i j:Nat} {hi:i<l.length} {hj:j<l.length} (h:¬a9t (Day.day l[i]) (Day.day l[j])<0):a0s l j≤a0s l i:=by
 rw[a7i]at h;rw[a1e hi,a1e hj];omega
end Go.Sx
set_option linter.all false
namespace Go.Sx
open Go
variable {α:Type} [Day α]
inductive Pre (l:List α) (q:Nat):Nat→Prop
 |zero:Pre l q 0
 |snoc {a:Nat}:Pre l q a→SrtD l a (a+q)→Pre l q (a+q)
inductive Blk (l:List α) (q n:Nat):Nat→Prop
 |done {s:Nat}:n≤s→Blk l q n s
 |step {s:Nat}:SrtD l s (min (s+q) n)→Blk l q n (s+q)→Blk l q n s
theorem SrtD.same {l m:List α} {a b:Nat} (h:SrtD l a b) (he:∀k,a≤k→k<b→m[k]? = l[k]?):SrtD m a b:=fun p q p1 p2 p3=>by
 have e:∀z,a≤z→z<b→a0s m z=a0s l z:=fun z h1 h2=>by unfold a0s;rw[he z h1 h2]
 rw[e p p1 oM,e q oM p3];exact h p q p1 p2 p3
theorem Pre.same {l m:List α} {q a:Nat} (h:Pre l q a) (he:∀k,k<a→m[k]? = l[k]?):Pre m q a:=by
 induction h with
 |zero=>exact .zero
 |snoc h1 h2 ih=>exact .snoc (ih fun k hk=>he k oM) (h2.same fun k _ hk=>he k hk)
theorem Blk.same {l m:List α} {q n s:Nat} (h:Blk l q n s) (he:∀k,s≤k→k<n→m[k]? = l[k]?):Blk m q n s:=by
 induction h with
 |done h=>exact .done h
 |step h1 h2 ih=>exact .step (h1.same fun k h3 h4=>he k h3 oM) (ih fun k hk hk2=>he k oM hk2)
theorem Pre.blk {l:List α} {q n a:Nat} (h:Pre l q a) (han:a≤n) (hb:Blk l q n a):Blk l q n 0:=by
 induction h with
 |zero=>exact hb
 |snoc h1 h2 ih=>exact ih oM (.step (h2.sub (Nat.le_refl _) oM) hb)
theorem Pre.put {l m:List α} {q a:Nat} (h:Pre l q a) (hs:Seg l m a (a+q)):Pre m q (a+q):=.snoc (h.same fun k hk=>hs.out k (.inl hk)) hs.srt
theorem Pre.last {l m:List α} {q a n:Nat} (h:Pre l q a) (hs:Seg l m a n) (han:a≤n) (hq:n<a+q):Blk m q n 0:=
 (h.same fun k hk=>hs.out k (.inl hk)).blk han (.step (hs.toD.sub (Nat.le_refl _) oM) (.done oM))
theorem Blk.two {l:List α} {q n s:Nat} (h:Blk l q n s) (hs:s+2 * q≤n) (hq:1≤q):SrtD l s (s+q)∧SrtD l (s+q) (s+2 * q)∧Blk l q n (s+2 * q):=by
 cases h with
 |done h=>omega
 |step h1 h2=>cases h2 with
  |done h=>omega
  |step h3 h4=>exact⟨h1.sub (Nat.le_refl _) oM,h3.sub (Nat.le_refl _) oM,by rw[show s+2 * q=s+q+q from by omega];exact h4⟩
theorem Blk.one {l:List α} {q n s:Nat} (h:Blk l q n s) (hs:s+q<n):SrtD l s (s+q)∧(n≤s+2 * q→SrtD l (s+q) n):=by
 cases h with
 |done h=>omega
 |step h1 h2=>cases h2 with
  |done h=>omega
  |step h3 h4=>exact⟨h1.sub (Nat.le_refl _) oM,fun h=>h3.sub (Nat.le_refl _) oM⟩
theorem Blk.all {l:List α} {q n s:Nat} (h:Blk l q n s) (hs:n≤s+q):SrtD l s n:=by
 cases h with
 |done h=>exact SrtD.none oM
 |step h1 h2=>exact h1.sub (Nat.le_refl _) oM
def b9r (l:List α):Prop:=l.Pairwise fun x y=>Day.day x≤Day.day y
theorem SrtD.pw {l:List α} (h:SrtD l 0 l.length):b9r l:=by
 rw[b9r,List.pairwise_iff_getElem];intro i j hi hj hij;have:=h i j (Nat.zero_le _) hij hj
 rwa[a1e hi,a1e hj]at this
theorem d2B:∀(m m':List α),b9r m→b9r m'→(∀d:Int,m.filter (fun e=>decide (Day.day e=d))=m'.filter (fun e=>decide (Day.day e=d)))→m=m':=by
 intro m
 induction m with
 |nil=>
  intro m' _ _ h
  cases m' with
  |nil=>rfl
  |cons y r=>have:=h (Day.day y);simp at this
 |cons x r ih=>
  intro m' h1 h2 h
  cases m' with
  |nil=>have:=h (Day.day x);simp at this
  |cons y r'=>
   unfold b9r at h1 h2
   rw[List.pairwise_cons]at h1 h2
   have hx:x∈(y::r'):=by
    have:x∈(y::r').filter (fun e=>decide (Day.day e=Day.day x)):=by rw[←h];simp
    exact (List.mem_filter.1 this).1
   have hy:y∈(x::r):=by
    have:y∈(x::r).filter (fun e=>decide (Day.day e=Day.day y)):=by rw[h];simp
    exact (List.mem_filter.1 this).1
   have d1:Day.day y≤Day.day x:=by
    rcases List.mem_cons.1 hx with e|hx
    ·rw[e];exact Int.le_refl _
    ·exact h2.1 x hx
   have d2:Day.day x≤Day.day y:=by
    rcases List.mem_cons.1 hy with e|hy
    ·rw[e];exact Int.le_refl _
    ·exact h1.1 y hy
   have hd:Day.day y=Day.day x:=Int.le_antisymm d1 d2;have h0:=h (Day.day x)
   simp only[List.filter_cons,hd,decide_true,if_true,List.cons.injEq]at h0
   obtain⟨rfl,h0⟩:=h0
   congr 1
   refine ih r' h1.2 h2.2 fun d=>?_
   have h3:=h d
   simp only[List.filter_cons]at h3
   split at h3
   ·simpa using h3
   ·exact h3
def b2b (e:α):List α→List α
 | []=>[e]
 |x::r=>if Day.day e≤Day.day x then e::x::r else x::b2b e r
def a1N (l:List α):List α:=l.foldr b2b []
theorem b7Y {e y:α}:∀{l:List α},y∈b2b e l↔y=e∨y∈l
 | []=>by simp[b2b]
 |x::r=>by
  simp only[b2b]
  split
  ·simp
  ·simp only[List.mem_cons,b7Y (l:=r)]
   constructor
   ·rintro (h|h|h)
    ·exact .inr (.inl h)
    ·exact .inl h
    ·exact .inr (.inr h)
   ·rintro (h|h|h)
    ·exact .inr (.inl h)
    ·exact .inl h
    ·exact .inr (.inr h)
theorem b7Z {e:α}:∀{l:List α},b9r l→b9r (b2b e l)
 | [],_=>by simp[b2b,b9r]
 |x::r,h=>by
  unfold b9r at h
  have h':=List.pairwise_cons.1 h
  simp only[b2b]
  split
  ·rename_i hd
   refine List.pairwise_cons.2 ⟨fun y hy=>?_,h⟩
   rcases List.mem_cons.1 hy with rfl|hy
   ·exact hd
   ·exact Int.le_trans hd (h'.1 y hy)
  ·rename_i hd
   refine List.pairwise_cons.2 ⟨fun y hy=>?_,b7Z h'.2⟩
   rcases b7Y.1 hy with rfl|hy
   ·omega
   ·exact h'.1 y hy
theorem b7X (e:α):∀l:List α,(b2b e l).length=l.length+1
  | []=>rfl
  | x :: r => by simp only [b2b]; split; · simp
                 · simp[b7X e r]
theorem b0z (e:α) (d:Int):∀l:List α,(b2b e l).filter (fun e=>decide (Day.day e=d))=(e::l).filter (fun e=>decide (Day.day e=d))
 | []=>rfl
 |x::r=>by
  simp only[b2b]
  split
  ·rfl
  ·rename_i hd
   rw[List.filter_cons,b0z e d r]
   simp only[List.filter_cons]
   by_cases h1:Day.day x=d
   ·by_cases h2:Day.day e=d
    ·omega
    ·simp[h1,h2]
   ·simp[h1]
theorem a7Y:∀l:List α,b9r (a1N l)
 | []=>List.Pairwise.nil
 |x::r=>b7Z (a7Y r)
theorem a4B:∀l:List α,(a1N l).length=l.length
 | []=>rfl
 |x::r=>(b7X x (a1N r)).trans (by rw[a4B r];rfl)
theorem a6h (d:Int):∀l:List α,(a1N l).filter (fun e=>decide (Day.day e=d))=l.filter (fun e=>decide (Day.day e=d))
 | []=>rfl
 |x::r=>(b0z x d (a1N r)).trans (by rw[List.filter_cons,List.filter_cons,a6h d r])
theorem b8U {l m:List α} (h:Stb l m) (hs:b9r m):m=a1N l:=d2B m _ hs (a7Y l) fun d=>by rw[h.2 d,a6h]
theorem a7X {l:List α} {x:α}:x∈a1N l↔x∈l:=by
 have h:∀(m:List α),x∈m↔x∈m.filter (fun e=>decide (Day.day e=Day.day x)):=fun m=>by simp
 rw[h,a6h,←h]
section
variable {P:Program} {n:Sz} {E:Ent} {I:IMap} {L:LL} {H:List Res} {K:Act→World→Prop}
theorem c4x {g e k m:Nat} {xss:List (List Value)} (hU:Uk k xss) (hm:xss.length=m) (hl:m≤maxLen) (h:SX n E I L (.row (.slice (some ⟨g,0,none⟩) m m) e k m xss.flatten::H) K):SX n E I L (.blk g e xss.flatten::H) K:=by
 have:=a2e (rest:=[]) hU (fun c hc=>(by cases hc)) hm (by simp) hl h
 simpa using this
end
end Go.Sx
set_option linter.all false
namespace Go.Sx
open Go
def d3s (P:Program) (l:Nat) (args:List Value) (I:IMap) (H:List Res) (post:Value→IMap→List Res→Prop):Prop:=
 ∀w,Mem ⟨a2c H,I,w⟩ I H w→After P (Instr.yield l args.toArray) w (a9p ⟨a2c H,I,w⟩ post)
def a6Q {α:Type} (P:Program) (l:Nat) (rd:IMap→List Value→α→Prop) (ok:List α→α→Prop) (J:Bool→List α→IMap→List Res→Prop):Prop:=
 ∀pre x vs I H,J true pre I H→rd I vs x→ok pre x→d3s P l vs I H fun u I' H'=>∃b,u = .bool b∧J b (pre++[x]) I' H'
def d3q {α:Type} (J:Bool→List α→IMap→List Res→Prop):Prop:=∀b pre I I' H,ILe I I'→J b pre I H→J b pre I' H
def c0W {α:Type} (P:Program) (f:FuncId) (cap:List Value) (I0:IMap) (rd:IMap→List Value→α→Prop) (ok:List α→α→Prop) (full part:List α→Prop):Prop:=
 ∀(l:Nat) (J:Bool→List α→IMap→List Res→Prop) (I:IMap) (Hc:List Res),ILe I0 I→d3q J→a6Q P l rd ok J→J true [] I Hc →
  FnH P f (.func (.yield l) #[] #[]::cap).toArray I Hc fun _ I' H'=>∃b pre,J b pre I' H'∧(if b then full pre else part pre)
section
variable {P:Program} {ρ:Option Nat} {n:Sz} {E:Ent} {I I':IMap} {L:LL} {H:List Res} {Q:Exit→Act→World→Prop} {ops:Array Oper} {K:Act→World→Prop}
variable {d ty:Nat} {pos:String} {af:Array Edge}
theorem b1L {a:Act} {w:World} {fo:Operand} {as_:List Operand} {ats:Array TypeId} {l:Nat} {args:List Value} (s:St n a L) (hf:ev L fo=some (.func (.yield l) #[] #[])) (ha:evs L as_=some args) (o:Oper)
  (ho:o.op = .call { callee:=.value fo,args:=as_.toArray,argTypes:=ats }):(execOp a.eval o).run P w=(Instr.yield l args.toArray).run P w:=by
 have ha':as_.toArray.map a.eval=args.toArray:=by rw[←a6q s as_ args ha];simp
 simp only[execOp,ho,resolve,ha',s.ev hf,Deferred.ofValue,Sem.run_bind,Sem.run_pure,Result.andThen_ok,invoke]
 congr 1
 congr 1
 simp
theorem b3B {α:Type} {l:Nat} {rd:IMap→List Value→α→Prop} {ok:List α→α→Prop} {J:Bool→List α→IMap→List Res→Prop} {Hc:List Res} {fo:Operand} {as_:List Operand} {ats:Array TypeId} {vs:List Value} {pre:List α} {x:α}
  (hy:a6Q P l rd ok J) (hJ:J true pre I Hc) (hr:rd I vs x) (hk:ok pre x) (hf:ev L fo=some (.func (.yield l) #[] #[])) (ha:evs L as_=some vs) (hd:Nat.blt d n.sz=true)
  (k:∀b I' Hc',ILe I I'→J b (pre++[x]) I' Hc'→SX n E I' ((d,.bool b)::L) (H++Hc') K) :
  SX n E I L (H++Hc) (one P ops Q ⟨some d,.call { callee:=.value fo,args:=as_.toArray,argTypes:=ats },ty,pos,af,none⟩ K):=by
 refine a4D List.perm_append_comm ?_;refine b6x (hy pre x vs I Hc hJ hr hk) (fun a w s=>b1L s hf ha _ rfl) hd fun v I' H' hI hp=>?_
 obtain⟨b,rfl,hp⟩:=hp;exact a4D List.perm_append_comm (k b I' H' hI hp)
def putAll:List (Nat×Value)→LL→LL
 | [],L=>L
 |(i,v)::r,L=>putAll r ((i,v)::L)
theorem St.putAll {k:Nat}:∀(ps:List (Nat×Value)) {a:Act} {L:LL},St ⟨k,[]⟩ a L→(∀p∈ps,p.1<k)→St ⟨k,[]⟩ { a with tmps:=ps.foldl (fun t p=>t.setIfInBounds p.1 p.2) a.tmps } (putAll ps L)
 | [],_,_,s,_=>s
 |(i,v)::r,a,L,s,h=>by
  have hi:i<k:=h (i,v) (by simp);have s1:St ⟨k,[]⟩ (a.put (some i) v) ((i,v)::L):=s.put (by simpa[Nat.blt_eq]using hi);exact St.putAll r s1 (fun p hp=>h p (by simp[hp]))
structure Rec where
 l:Nat
 D:Nat
 ready:Loop
 hs:ready.state = .ready
 hp:ready.pending=none
def Rec.busy (r:Rec):Loop:={ r.ready with state:=.busy }
def Rec.done (r:Rec) (c:Code):Loop:={ r.ready with state:=.done,pending:=some c }
def Rec.mark (r:Rec):Res:=.any r.D (.deferred (some []))
def JR {α σ:Type} (I0:IMap) (r:Rec) (Hx:σ→List Res) (p:List α→IMap→σ→Prop) (px:List α→IMap→σ→Code→Prop):Bool→List α→IMap→List Res→Prop
 |true,pre,I,H=>∃s,H = .any r.l (.loop r.ready)::r.mark::Hx s∧ILe I0 I∧p pre I s
 |false,pre,I,H=>∃s c,H = .any r.l (.loop (r.done c))::r.mark::Hx s∧ILe I0 I∧px pre I s c
def d6y {α σ:Type} (P:Program) (E:Ent) (I0:IMap) (r:Rec) (Hx:σ→List Res) (p:List α→IMap→σ→Prop) (px:List α→IMap→σ→Code→Prop) (pre:List α):Exit→Act→World→Prop:=
 roundPost P r.l (a9p E fun u I' H'=>∃b,u = .bool b∧JR I0 r Hx p px b pre I' H')
def c8L (P:Program) (r:Rec) (body:Code) (R:Exit→Act→World→Prop):Exit→Act→World→Prop:=
 Exit.then (fun a w=>∃w',(Instr.beginRound r.l).run P w = .ok () w'∧body.wq (some r.l) P R a w') (fun _ _ _=>False)
variable {α σ:Type} {I0:IMap} {r:Rec} {Hx:σ→List Res} {p:List α→IMap→σ→Prop} {px:List α→IMap→σ→Code→Prop} {pre:List α}
theorem a6i {w:World} {o o':Loop} {l:Nat} (m:Mem E I (.any l (.loop o)::H) w):Mem E I (.any l (.loop o')::H) (w.putObj l (.loop o')):=by
 have hr:w.heap[l]? = some (.loop o):=m.holds _ (List.mem_cons_self ..);have hlt:l<w.heap.size:=(Array.getElem?_eq_some_iff.1 hr).1;exact m.step rfl ⟨rfl,Nat.le_refl _⟩ rfl (by simp) (fun k hk hne=>World.putObj_heap_other (fun e=>hne (by subst e;rfl))) (World.putObj_heap_same hlt) (fun g hg=>.inl hg)
theorem b1b {body:Code} {R:Exit→Act→World→Prop} (h:SX n E I L (.any r.l (.loop r.busy)::H) (body.wq (some r.l) P R)):SX n E I L (.any r.l (.loop r.ready)::H) (c8L P r body R .normal):=by
 intro a w s m;have hl:w.heap[r.l]? = some (.loop r.ready):=m.holds _ (List.mem_cons_self ..);exact⟨_,run_beginRound hl r.hs,h a _ s (a6i m)⟩
theorem b5j (s':σ) (hI:ILe I0 I) (hp:p pre I s') (hH:H=Hx s'):SX n E I L (.any r.l (.loop r.busy)::r.mark::H) (d6y P E I0 r Hx p px pre .normal):=by
 subst hH;intro a w s m;have hl:w.heap[r.l]? = some (.loop r.busy):=m.holds _ (List.mem_cons_self ..);refine⟨_,_,run_endRound none hl,.bool true,I,_,rfl,a6i m,true,rfl,s',?_,hI,hp⟩
 have:(({ r.busy with state:=if (none:Option Code).isNone=true then .ready else .done,pending:=none }:Loop))=r.ready:=by
  have h1:=r.hs;have h2:=r.hp
  unfold Rec.busy
  cases hr:r.ready
  rw[hr]at h1 h2
  simp only at h1 h2
  subst h1 h2
  rfl
 rw[this]
theorem c9m {c:Code} (s':σ) (hI:ILe I0 I) (hp:px pre I s' c) (hH:H=Hx s') {a:Act} {w:World} (m:Mem E I (.any r.l (.loop r.busy)::r.mark::H) w) :
  ∃v w',(Instr.endRound r.l (some c)).run P w = .ok v w'∧a9p E (fun u I' H'=>∃b,u = .bool b∧JR I0 r Hx p px b pre I' H') (.returned v) w':=by
 subst hH;have hl:w.heap[r.l]? = some (.loop r.busy):=m.holds _ (List.mem_cons_self ..);exact⟨_,_,run_endRound (some c) hl,.bool false,I,_,rfl,a6i m,false,rfl,s',c,rfl,hI,hp⟩
theorem d7S (s':σ) (hI:ILe I0 I) (hp:px pre I s' .ret) (hH:H=Hx s'):SX n E I L (.any r.l (.loop r.busy)::r.mark::H) (d6y P E I0 r Hx p px pre .ret):=fun _ _ _ m=>c9m (a:=⟨#[],[]⟩) s' hI hp hH m
theorem d5u {id:Nat} (s':σ) (hI:ILe I0 I) (hp:px pre I s' (.exit id)) (hH:H=Hx s'):SX n E I L (.any r.l (.loop r.busy)::r.mark::H) (d6y P E I0 r Hx p px pre (.exit id)):=fun _ _ _ m=>c9m (a:=⟨#[],[]⟩) s' hI hp hH m
theorem b0f {k gf:Nat} {D:List Mk} {H0:List Res} {g:Operand} {ps:List Nat} {assign body:Code} {cap:List Value} {rd:IMap→List Value→α→Prop} {ok:List α→α→Prop} {full part:List α→Prop}
  (s0:σ) (Hx:σ→List Res) (p:List α→IMap→σ→Prop) (px:List α→IMap→σ→Code→Prop)
  (hg:ev L g=some (.func (.func gf) #[] cap.toArray)) (hcall:∀(args:Array Value) (w:World),(callFunc gf args).run P w = .ok (.enter gf args) w)
  (hit:c0W P gf cap I rd ok full part) (hlen:∀I vs x,rd I vs x→vs.length=ps.length) (hps:ps.all (fun i=>Nat.blt i k)=true)
  (hmp:∀pre I I' s,ILe I I'→p pre I s→p pre I' s) (hmx:∀pre I I' s c,ILe I I'→px pre I s c→px pre I' s c)
  (h0:p [] I s0) (hH:Hx s0++H0=H)
  (round:∀(r:Rec) (E1:Ent) pre x vs I1 s,ILe I I1→p pre I1 s→rd I1 vs x→ok pre x →
   SX ⟨k,[]⟩ E1 I1 (putAll (ps.zip vs) L) (.any r.l (.loop r.ready)::r.mark::Hx s) (assign.wq (some r.l) P (c8L P r body (d6y P E1 I r Hx p px (pre++[x])))))
  (hdone:∀D' pre I1 s,ILe I I1→full pre→p pre I1 s→SX ⟨k,.m D'::D⟩ E I1 L (.any D' (.deferred (some []))::(Hx s++H0)) (Q .normal))
  (hstop:∀D' pre I1 s c,ILe I I1→part pre→px pre I1 s c→SX ⟨k,.m D'::D⟩ E I1 L (.any D' (.deferred (some []))::(Hx s++H0)) (c.wq none P Q)) :
  SX ⟨k,D⟩ E I L H ((Code.rangeFunc g ps.toArray assign body).wq none P Q):=by
 subst hH;intro a w s m;refine wpIn_rangeFunc ?_;intro fn _;obtain⟨rec,hrec⟩:∃rec:Loop,rec = { state:=.ready,pending:=none,fn,tmps:=a.tmps,params:=ps.toArray,assign,body,defers:=w.heap.size }:=⟨_,rfl⟩;obtain⟨W1,hW1⟩:∃W1,(w.alloc (.deferred (some []))).alloc (.loop rec)=W1:=⟨_,rfl⟩;obtain⟨r,hr⟩:∃r:Rec,r=⟨w.heap.size+1,w.heap.size,rec,by rw[hrec],by rw[hrec]⟩:=⟨_,rfl⟩;have hrl:r.l=w.heap.size+1:=by rw[hr]
 have hrD:r.D=w.heap.size:=by rw[hr]
 have hrr:r.ready=rec:=by rw[hr]
 have hevg:a.eval g = .func (.func gf) #[] cap.toArray:=s.ev hg
 refine⟨w.heap.size+1,[{ target:=.collected w.heap.size,args:=#[] }],W1,{ target:=.fn (.func gf) cap.toArray,args:=#[.func (.yield (w.heap.size+1)) #[] #[]] },W1,gf,
  #[.func (.yield (w.heap.size+1)) #[] #[]]++cap.toArray,W1,?_,?_,fun _ _=>trivial,?_,fun h=>by simp[fen,Fence.wide]at h,?_⟩
 ·rw[←hW1,hrec];exact run_enterLoop_outer _ _ _ _ _
 ·simp only[resolve,hevg]
  simp[go_sem]
 ·simp[invoke,go_sem,hcall]
 have m1:Mem E I (.any r.D (.deferred (some []))::(Hx s0++H0)) (w.alloc (.deferred (some []))):=by
  rw[hrD];exact m.new rfl ⟨rfl,Nat.le_refl _⟩ rfl (by simp) (fun k hk=>a5b w _ k hk) (heap_alloc_new w _) fun g hg=>by simp only[Res.foot,Option.some.injEq]at hg;omega
 have m2:Mem E I ((.any r.l (.loop r.ready)::r.mark::Hx s0)++H0) W1:=by
  rw[hrl,hrr,←hW1];have hsz:(w.alloc (.deferred (some []))).heap.size=w.heap.size+1:=by simp
  refine m1.new rfl ⟨rfl,Nat.le_refl _⟩ rfl (by simp) (fun k hk=>a5b _ _ k hk) ?_ fun g hg=>by simp only[Res.foot,Option.some.injEq]at hg;omega
  have:=heap_alloc_new (w.alloc (.deferred (some []))) (.loop rec);rw[hsz]at this
  exact this
 -- the rounds
 have hJm:d3q (JR I r Hx p px):=by
  rintro (_|_) pre I1 I2 H1 hle ⟨s1,h⟩
  ·obtain⟨c,h1,h2,h3⟩:=h;exact⟨s1,c,h1,h2.trans hle,hmx _ _ _ _ _ hle h3⟩
  ·obtain⟨h1,h2,h3⟩:=h;exact⟨s1,h1,h2.trans hle,hmp _ _ _ _ hle h3⟩
 have hy:a6Q P r.l rd ok (JR I r Hx p px):=by
  rintro pre x vs I1 H1 ⟨s1,rfl,hle,hp1⟩ hx hok w1 mw;have hl1:w1.heap[r.l]? = some (.loop r.ready):=mw.holds _ (List.mem_cons_self ..);have hI1:=round r ⟨a2c (.any r.l (.loop r.ready)::r.mark::Hx s1),I1,w1⟩ pre x vs I1 s1 hle hp1 hx hok;have hvl:vs.toArray.size=r.ready.params.size:=by rw[hrr,hrec];simp[hlen _ _ _ hx]
  unfold After;rw[run_yield (P:=P) hl1 hvl];refine roundIn_of_wpIn trivial ?_
  have st1:St ⟨k,[]⟩ { tmps:=((r.ready.params.zip vs.toArray).foldl (fun tmps x=>tmps.setIfInBounds x.1 x.2) r.ready.tmps),defers:=[] } (putAll (ps.zip vs) L):=by
   have h0:St ⟨k,[]⟩ { a with defers:=[] } L:=⟨s.size,rfl,s.get⟩
   have h1:=h0.putAll (ps.zip vs) (fun q hq=>by
    have h2:=List.all_eq_true.1 hps q.1 (List.of_mem_zip hq).1
    simpa[Nat.blt_eq]using h2)
   have e:(r.ready.params.zip vs.toArray).foldl (fun tmps x=>tmps.setIfInBounds x.1 x.2) r.ready.tmps=(ps.zip vs).foldl (fun t p=>t.setIfInBounds p.1 p.2) a.tmps:=by
    rw[hrr,hrec]
    simp
   rw[e];exact h1
  have m1:=Mem.call (E:=⟨a2c (.any r.l (.loop r.ready)::r.mark::Hx s1),I1,w1⟩) (Hc:=.any r.l (.loop r.ready)::r.mark::Hx s1) (H0:=[]) (by simpa using mw);have h3:=hI1 _ _ st1 m1;have e2:r.ready.assign=assign:=by rw[hrr,hrec]
  have e3:r.ready.body=body:=by rw[hrr,hrec]
  rw[e2,e3];exact h3
 have hf:=(hit r.l (JR I r Hx p px) I _ (ILe.refl I) hJm hy ⟨s0,rfl,ILe.refl I,h0⟩).go W1 m2.call;unfold After at hf
 rw[hcall]at hf
 have hargs:#[.func (.yield (w.heap.size+1)) #[] #[]]++cap.toArray=(Value.func (.yield r.l) #[] #[]::cap).toArray:=by rw[hrl];simp
 rw[hargs];refine b0g (Calls.mono hf ?_);rintro e w2 ⟨v,I',H',rfl,hm',b,pre,hJ,hfp⟩;have hb:=m2.back hm';have hsame:∀_:Unit,St ⟨k,.m r.D::D⟩ { a with defers:=[{ target:=.collected w.heap.size,args:=#[] }]++a.defers } L:=fun _=>⟨s.size,by rw[hrD];show _::a.defers=_;rw[s.defers];rfl,s.get⟩
 cases b with
 |true=>
  obtain⟨s2,rfl,hle,hp2⟩:=hJ;have hl2:w2.heap[w.heap.size+1]? = some (.loop r.ready):=by rw[←hrl];exact hb.holds _ (List.mem_cons_self ..)
  refine⟨none,_,by have:=run_endLoop (P:=P) hl2 (by rw[r.hs];simp);rw[r.hp]at this;exact this,?_⟩;rw[←hrl];have m3:=(a6i (o':={ r.ready with state:=.exhausted,pending:=none }) hb).drop;exact hdone r.D pre I' s2 hle hfp hp2 _ _ (hsame ()) m3
 |false=>
  obtain⟨s2,c,rfl,hle,hp2⟩:=hJ;have hl2:w2.heap[w.heap.size+1]? = some (.loop (r.done c)):=by rw[←hrl];exact hb.holds _ (List.mem_cons_self ..)
  refine⟨some c,_,by have:=run_endLoop (P:=P) hl2 (by simp[Rec.done]);exact this,?_⟩;rw[←hrl];have m3:=(a6i (o':={ r.done c with state:=.exhausted }) hb).drop;exact hstop r.D pre I' s2 c hle hfp hp2 _ _ (hsame ()) m3
end
end Go.Sx
set_option linter.all false
namespace Go.Sx
open Go
section
variable {P:Program} {ρ:Option Nat} {n:Sz} {E:Ent} {I I':IMap} {L:LL} {H:List Res} {K:Act→World→Prop} {Q:Exit→Act→World→Prop} {ops:Array Oper} {N:Act→World→Prop}
variable {α β γ δ ε:Type}
def c8H (n:Sz) (E:Ent) (Ix:α→β→γ→δ→IMap) (Lx:α→β→γ→δ→LL) (Hx:α→β→γ→δ→List Res) (p:α→β→γ→δ→Prop) (μ:α→β→γ→δ→Nat) (x:α) (y:β) (z:γ) (t:δ):Act→World→Prop:=
 fun a w=>∃x' y' z' t',p x' y' z' t'∧μ x' y' z' t'<μ x y z t∧St n a (Lx x' y' z' t')∧Mem E (Ix x' y' z' t') (Hx x' y' z' t') w
theorem a3A (x0:α) (y0:β) (z0:γ) (t0:δ) (Ix:α→β→γ→δ→IMap) (Lx:α→β→γ→δ→LL) (Hx:α→β→γ→δ→List Res) (p:α→β→γ→δ→Prop) (μ:α→β→γ→δ→Nat) {c:Code}
  (h0:p x0 y0 z0 t0) (hI:Ix x0 y0 z0 t0=I) (hL:Sub (Lx x0 y0 z0 t0) L) (hH:Hx x0 y0 z0 t0=H)
  (round:∀x y z t,p x y z t→SX n E (Ix x y z t) (Lx x y z t) (Hx x y z t) (c.wq ρ P (Exit.then (c8H n E Ix Lx Hx p μ x y z t) Q))):SX n E I L H ((Code.loop c).wq ρ P Q):=
 a0x (α:=α×β×γ×δ) (x0,y0,z0,t0) (fun q=>Ix q.1 q.2.1 q.2.2.1 q.2.2.2) (fun q=>Lx q.1 q.2.1 q.2.2.1 q.2.2.2) (fun q=>Hx q.1 q.2.1 q.2.2.1 q.2.2.2) (fun q=>p q.1 q.2.1 q.2.2.1 q.2.2.2) (fun q=>μ q.1 q.2.1 q.2.2.1 q.2.2.2) h0 hI hL hH
  fun ⟨x,y,z,t⟩ hp=>b3N (round x y z t hp) fun a w h=>a3n (fun e a w q=>by
   cases e with
   |normal=>obtain⟨x',y',z',t',h1,h2,h3,h4⟩:=q;exact⟨(x',y',z',t'),h1,h2,h3,h4⟩
   |_=>exact q) h
theorem a1G {Ix:α→β→γ→δ→IMap} {Lx:α→β→γ→δ→LL} {Hx:α→β→γ→δ→List Res} {p:α→β→γ→δ→Prop} {μ:α→β→γ→δ→Nat} {x:α} {y:β} {z:γ} {t:δ} (x':α) (y':β) (z':γ) (t':δ) (hp:p x' y' z' t') (hμ:μ x' y' z' t'<μ x y z t)
  (hI:Ix x' y' z' t'=I) (hL:Sub (Lx x' y' z' t') L) (hH:Hx x' y' z' t'=H):SX n E I L H (c8H n E Ix Lx Hx p μ x y z t):=
 fun a w s m=>⟨x',y',z',t',hp,hμ,s.sub hL,by rw[hI,hH];exact m⟩
def c8I (n:Sz) (E:Ent) (Ix:α→β→γ→δ→ε→IMap) (Lx:α→β→γ→δ→ε→LL) (Hx:α→β→γ→δ→ε→List Res) (p:α→β→γ→δ→ε→Prop) (μ:α→β→γ→δ→ε→Nat) (x:α) (y:β) (z:γ) (t:δ) (u:ε):Act→World→Prop:=
 fun a w=>∃x' y' z' t' u',p x' y' z' t' u'∧μ x' y' z' t' u'<μ x y z t u∧St n a (Lx x' y' z' t' u')∧Mem E (Ix x' y' z' t' u') (Hx x' y' z' t' u') w
theorem a5t (x0:α) (y0:β) (z0:γ) (t0:δ) (u0:ε) (Ix:α→β→γ→δ→ε→IMap) (Lx:α→β→γ→δ→ε→LL) (Hx:α→β→γ→δ→ε→List Res) (p:α→β→γ→δ→ε→Prop) (μ:α→β→γ→δ→ε→Nat) {c:Code}
  (h0:p x0 y0 z0 t0 u0) (hI:Ix x0 y0 z0 t0 u0=I) (hL:Sub (Lx x0 y0 z0 t0 u0) L) (hH:Hx x0 y0 z0 t0 u0=H)
  (round:∀x y z t u,p x y z t u→SX n E (Ix x y z t u) (Lx x y z t u) (Hx x y z t u) (c.wq ρ P (Exit.then (c8I n E Ix Lx Hx p μ x y z t u) Q))):SX n E I L H ((Code.loop c).wq ρ P Q):=
 a0x (α:=α×β×γ×δ×ε) (x0,y0,z0,t0,u0) (fun q=>Ix q.1 q.2.1 q.2.2.1 q.2.2.2.1 q.2.2.2.2) (fun q=>Lx q.1 q.2.1 q.2.2.1 q.2.2.2.1 q.2.2.2.2) (fun q=>Hx q.1 q.2.1 q.2.2.1 q.2.2.2.1 q.2.2.2.2) (fun q=>p q.1 q.2.1 q.2.2.1 q.2.2.2.1 q.2.2.2.2) (fun q=>μ q.1 q.2.1 q.2.2.1 q.2.2.2.1 q.2.2.2.2) h0 hI hL hH
  fun ⟨x,y,z,t,u⟩ hp=>b3N (round x y z t u hp) fun a w h=>a3n (fun e a w q=>by
   cases e with
   |normal=>obtain⟨x',y',z',t',u',h1,h2,h3,h4⟩:=q;exact⟨(x',y',z',t',u'),h1,h2,h3,h4⟩
   |_=>exact q) h
theorem a2Y {Ix:α→β→γ→δ→ε→IMap} {Lx:α→β→γ→δ→ε→LL} {Hx:α→β→γ→δ→ε→List Res} {p:α→β→γ→δ→ε→Prop} {μ:α→β→γ→δ→ε→Nat} {x:α} {y:β} {z:γ} {t:δ} {u:ε} (x':α) (y':β) (z':γ) (t':δ) (u':ε) (hp:p x' y' z' t' u') (hμ:μ x' y' z' t' u'<μ x y z t u)
  (hI:Ix x' y' z' t' u'=I) (hL:Sub (Lx x' y' z' t' u') L) (hH:Hx x' y' z' t' u'=H):SX n E I L H (c8I n E Ix Lx Hx p μ x y z t u):=
 fun a w s m=>⟨x',y',z',t',u',hp,hμ,s.sub hL,by rw[hI,hH];exact m⟩
end
section
variable {P:Program} {n:Sz} {E:Ent} {I:IMap} {L:LL} {Q:Exit→Act→World→Prop} {ops:Array Oper} {K:Act→World→Prop} {d ty:Nat} {pos:String} {af:Array Edge}
variable {α:Type} {l:Nat} {rd:IMap→List Value→α→Prop} {ok:List α→α→Prop} {J:Bool→List α→IMap→List Res→Prop} {Hc:List Res} {fo:Operand} {as_:List Operand} {ats:Array TypeId} {vs:List Value} {pre:List α} {r1 r2 r3 r4 r5:Res}
theorem c6S (x:α) (hy:a6Q P l rd ok J) (hJ:J true pre I Hc) (hr:rd I vs x) (hk:ok pre x) (hf:ev L fo=some (.func (.yield l) #[] #[])) (ha:evs L as_=some vs) (hd:Nat.blt d n.sz=true)
  (k:∀b I' Hc',ILe I I'→J b (pre++[x]) I' Hc'→SX n E I' ((d,.bool b)::L) Hc' K):SX n E I L Hc (one P ops Q ⟨some d,.call { callee:=.value fo,args:=as_.toArray,argTypes:=ats },ty,pos,af,none⟩ K):=
 b3B (H:=[]) hy hJ hr hk hf ha hd k
theorem c6T (x:α) (hy:a6Q P l rd ok J) (hJ:J true pre I Hc) (hr:rd I vs x) (hk:ok pre x) (hf:ev L fo=some (.func (.yield l) #[] #[])) (ha:evs L as_=some vs) (hd:Nat.blt d n.sz=true)
  (k:∀b I' Hc',ILe I I'→J b (pre++[x]) I' Hc'→SX n E I' ((d,.bool b)::L) (r1::Hc') K):SX n E I L (r1::Hc) (one P ops Q ⟨some d,.call { callee:=.value fo,args:=as_.toArray,argTypes:=ats },ty,pos,af,none⟩ K):=
 b3B (H:=[r1]) hy hJ hr hk hf ha hd k
theorem b8C (x:α) (hy:a6Q P l rd ok J) (hJ:J true pre I Hc) (hr:rd I vs x) (hk:ok pre x) (hf:ev L fo=some (.func (.yield l) #[] #[])) (ha:evs L as_=some vs) (hd:Nat.blt d n.sz=true)
  (k:∀b I' Hc',ILe I I'→J b (pre++[x]) I' Hc'→SX n E I' ((d,.bool b)::L) (r1::r2::Hc') K):SX n E I L (r1::r2::Hc) (one P ops Q ⟨some d,.call { callee:=.value fo,args:=as_.toArray,argTypes:=ats },ty,pos,af,none⟩ K):=
 b3B (H:=[r1,r2]) hy hJ hr hk hf ha hd k
theorem c6U (x:α) (hy:a6Q P l rd ok J) (hJ:J true pre I Hc) (hr:rd I vs x) (hk:ok pre x) (hf:ev L fo=some (.func (.yield l) #[] #[])) (ha:evs L as_=some vs) (hd:Nat.blt d n.sz=true)
  (k:∀b I' Hc',ILe I I'→J b (pre++[x]) I' Hc'→SX n E I' ((d,.bool b)::L) (r1::r2::r3::Hc') K):SX n E I L (r1::r2::r3::Hc) (one P ops Q ⟨some d,.call { callee:=.value fo,args:=as_.toArray,argTypes:=ats },ty,pos,af,none⟩ K):=
 b3B (H:=[r1,r2,r3]) hy hJ hr hk hf ha hd k
end
section
variable {P:Program} {n:Sz} {E:Ent} {I I':IMap} {L:LL} {H:List Res} {Q:Exit→Act→World→Prop} {ops:Array Oper} {K:Act→World→Prop} {w0:World}
variable {d ty:Nat} {pos:String} {af:Array Edge} {fo:Operand} {as_:List Operand} {ats:Array TypeId} {f:FuncId} {args:List Value} {r:Res} {X:List Nat}
def FnD (P:Program) (f:FuncId) (args:Array Value) (I:IMap) (r:Res) (p:Value→IMap→Prop):Prop:=FnH P f args I [r] fun u I' H'=>p u I'∧H'=[]
theorem b0O {p:Value→IMap→Prop} (hc:FnD P f args.toArray I r p) (h:a1w L fo as_=some (f,args)) (hd:Nat.blt d n.sz=true) (k:∀v I',ILe I I'→p v I'→SX n E I' ((d,v)::L) H K) :
  SX n E I L (r::H) (one P ops Q ⟨some d,.call { callee:=.value fo,args:=as_.toArray,argTypes:=ats },ty,pos,af,none⟩ K):=
 a2H (Hc:=[r]) hc h hd fun v I' H' hI hp=>by obtain⟨h1,rfl⟩:=hp;exact k v I' hI h1
theorem q_d {v:Value} {p:Value→IMap→Prop} (h:p v I):SX n E I L H fun _ w=>a9p E (fun u' I' H'=>p u' I'∧H'=[]) (.returned v) w:=q_i h
theorem c3R {α:Type} {J:Bool→List α→IMap→List Res→Prop} {full part:List α→Prop} {v:Value} (b:Bool) (pre:List α) (hJ:J b pre I H) (hf:if b then full pre else part pre) :
  SX n E I L H fun _ w=>a9p E (fun _ I' H'=>∃b pre,J b pre I' H'∧(if b then full pre else part pre)) (.returned v) w:=a2g (fun _ m=>m) ⟨b,pre,hJ,hf⟩
end
section
variable {n:Sz} {E:Ent} {I:IMap} {L:LL} {H:List Res} {K:Act→World→Prop} {a b r1 r2 r3 r4 r5 r6 r7 r8 r9:Res}
theorem c4t (h:SX n E I L [a,b,r1] K):SX n E I L (a::b::[r1]) K:=h
theorem b7g (h:SX n E I L (a::r1::H) K):SX n E I L (a::([r1]++H)) K:=h
theorem c4u (h:SX n E I L [a,b,r1,r2] K):SX n E I L (a::b::[r1,r2]) K:=h
theorem c4r (h:SX n E I L (a::r1::r2::H) K):SX n E I L (a::([r1,r2]++H)) K:=h
theorem d2F (h:SX n E I L [a,b,r1,r2,r3,r4,r5] K):SX n E I L (a::b::[r1,r2,r3,r4,r5]) K:=h
theorem c4s (h:SX n E I L (a::r1::r2::r3::r4::r5::H) K):SX n E I L (a::([r1,r2,r3,r4,r5]++H)) K:=h
end
theorem a9J {n:Sz} {E:Ent} {I:IMap} {L:LL} {H:List Res} {K:Act→World→Prop} {v:Value} {t k m:Nat} {xs ys:List Value} (h:xs=ys) (hk:SX n E I L (.row v t k m ys::H) K):SX n E I L (.row v t k m xs::H) K:=h▸hk
section
variable {P:Program} {n:Sz} {E:Ent} {I:IMap} {L:LL} {H:List Res} {d ty tx tyy:Nat} {pos:String} {af:Array Edge} {x y:Operand}
end
end Go.Sx
set_option linter.all false
namespace Go.Sx
open Go
theorem c2x {α:Type} (p:α→Bool) (l:List α) : -1≤a4G p l:=by
  cases h:l.findIdx? p with
  | none => have : a4G p l = -1 := by simp [a4G, h]
            omega
  | some k => have : a4G p l = (k : Int) := by simp [a4G, h]
              omega
theorem b7W {α:Type} {p:α→Bool} {l:List α} {i:Nat} (h:a4G p l=(i:Int)) (hi:i<l.length):p l[i]=true∧∀j x,j<i→l[j]? = some x→p x=false:=by
  cases hf:l.findIdx? p with
  | none => have : a4G p l = -1 := by simp [a4G, hf]
            omega
  |some k=>
    have:a4G p l=(k:Int):=by simp[a4G,hf]
    obtain rfl:k=i:=oM;rw[List.findIdx?_eq_some_iff_getElem]at hf
    obtain⟨h1,h2,h3⟩:=hf;exact⟨h2,fun j x hj hx=>by obtain⟨hlt,rfl⟩:=List.getElem?_eq_some_iff.1 hx;simpa using h3 j hj⟩
def d8N (I:IMap) (vs:List Value) (x:b1P):Prop:=∃w,vs=[.agg #[w],.int .i64 x.2]∧RdS I w x.1
structure Del {α:Type} (p:α→Bool) (l m:List α) (i j:Nat):Prop where
 len:m.length=l.length
 le:i≤j
 hj:j≤l.length
 fst:m.take i=(l.take j).filter fun x=>!p x
 rest:m.drop j=l.drop j
theorem Del.start {α:Type} {p:α→Bool} {l:List α} {i:Nat} (hi:i<l.length) (hp:p l[i]=true) (hn:∀j x,j<i→l[j]? = some x→p x=false):Del p l l i (i+1):=by
 refine⟨rfl,oM,oM,?_,rfl⟩;rw[←a0c hi,List.filter_append]
 have h1:(l.take i).filter (fun x=>!p x)=l.take i:=by
  rw[List.filter_eq_self];intro x hx;obtain⟨j,hj,rfl⟩:=List.getElem_of_mem hx
  simp only[List.length_take]at hj
  rw[List.getElem_take,hn j _ oM (List.getElem?_eq_getElem oM)]
  rfl
 rw[h1]
 simp[hp]
theorem Del.at_ {α:Type} {p:α→Bool} {l m:List α} {i j:Nat} (h:Del p l m i j) (hj:j<l.length):m[j]'(by rw[h.len];exact hj)=l[j]:=by
 have h1:(m.drop j)[0]? = (l.drop j)[0]?:=by rw[h.rest]
 rw[List.getElem?_drop,List.getElem?_drop,List.getElem?_eq_getElem (by rw[h.len];simpa using hj),List.getElem?_eq_getElem (by simpa using hj)]at h1
 simpa using h1
theorem Del.skip {α:Type} {p:α→Bool} {l m:List α} {i j:Nat} (h:Del p l m i j) (hj:j<l.length) (hp:p l[j]=true):Del p l m i (j+1):=by
 refine⟨h.len,by have:=h.le;omega,oM,?_,?_⟩
 ·rw[h.fst,←a0c hj,List.filter_append];simp[hp]
 ·have:=congrArg (List.drop 1) h.rest;simpa[List.drop_drop]using this
theorem Del.keep {α:Type} {p:α→Bool} {l m:List α} {i j:Nat} (h:Del p l m i j) (hj:j<l.length) (hp:p l[j]=false):Del p l (m.set i l[j]) (i+1) (j+1):=by
 have hl:=h.len;have hle:=h.le;refine⟨by simp[hl],oM,oM,?_,?_⟩
 ·rw[List.take_succ_eq_append_getElem (by simp;omega),List.take_set_of_le (Nat.le_refl _),h.fst,←a0c hj,List.filter_append]
  simp[hp]
 ·rw[List.drop_set_of_lt oM];have:=congrArg (List.drop 1) h.rest;simpa[List.drop_drop]using this
def a1b (c:List Kind):List Part→List Evt→List b1P
 |_,[]=>[]
 |s,e::r=>a0j c s e::(if (a0j c s e).2=0 then a1b c (a0j c s e).1 r else [])
theorem b2y (c:List Kind):∀(l:List Evt) (s:List Part),(a1b c s l).length≤l.length
 | [],_=>Nat.le_refl _
 |e::r,s=>by
  simp only[a1b,List.length_cons]
  split
  ·have:=b2y c r (a0j c s e).1;omega
  ·simp
abbrev c5o:=List Part×Int×Int
def b1K (c:List Kind):List Part→Int→List Evt→c5o
 |s,_,[]=>(s,-1,0)
 |s,i,e::r=>if (a0j c s e).2=0 then b1K c (a0j c s e).1 (i+1) r else ([],i,(a0j c s e).2)
def b6X (c:List Kind) (l:List Evt):c5o:=if a1I c=false then ([],-1,1) else b1K c [] 0 (a1N l)
def a3U (c:List Kind) (l:List Evt) (day:Int):c5o:=b6X c (l.filter fun e=>!decide (e.day>day))
def c0a (s:List Part) (pre:List b1P):List Part:=(pre.getLast?.map (·.1)).getD s
theorem b8R {c:List Kind}:∀(l:List Evt) (s:List Part) (i:Int),(∀x∈a1b c s l,x.2=0)→b1K c s i l=(c0a s (a1b c s l),-1,0)
 | [],s,i,_=>rfl
 |e::r,s,i,h=>by
  have h1:(a0j c s e).2=0:=h _ (by simp[a1b])
  simp only[b1K,a1b,if_pos h1]
  rw[b8R r _ _ (fun x hx=>h x (by simp only[a1b,if_pos h1];exact List.mem_cons_of_mem _ hx))]
  congr 1
  cases hs:a1b c (a0j c s e).1 r with
  |nil=>simp[c0a]
  |cons y t=>
   obtain⟨z,hz⟩:∃z,(y::t).getLast? = some z:=⟨_,List.getLast?_eq_some_getLast (by simp)⟩
   simp[c0a,List.getLast?_cons_cons,hz]
theorem b8S {c:List Kind}:∀(l:List Evt) (s:List Part) (i:Int) (pre rest:List b1P) (x:b1P),a1b c s l=pre++x::rest→(∀y∈pre,y.2=0)→x.2≠0→b1K c s i l=([],i+(pre.length:Nat),x.2)
 | [],s,i,pre,rest,x,h,_,_=>by simp[a1b]at h
 |e::r,s,i,pre,rest,x,h,hp,hx=>by
  simp only[a1b]at h
  cases pre with
  |nil=>
   simp only[List.nil_append,List.cons.injEq]at h
   simp only[b1K]
   rw[h.1,if_neg hx]
   simp
  |cons y t=>
   simp only[List.cons_append,List.cons.injEq]at h
   obtain⟨h1,h2⟩:=h;have h3:y.2=0:=hp y (by simp);rw[h1]at h2
   rw[if_pos h3]at h2
   simp only[b1K,h1,if_pos h3]
   rw[b8S r y.1 (i+1) t rest x h2 (fun z hz=>hp z (by simp[hz])) hx]
   simp only[List.length_cons,Prod.mk.injEq,true_and,and_true]
   omega
structure StAt (c:List Kind) (l:List Evt) (i:Nat) (st:List Part):Prop where
 le:i≤(a1b c [] l).length
 rest:(a1b c [] l).drop i=a1b c st (l.drop i)
theorem StAt.zero (c:List Kind) (l:List Evt):StAt c l 0 []:=⟨Nat.zero_le _,rfl⟩
theorem StAt.step {c:List Kind} {l:List Evt} {i:Nat} {st:List Part} (h:StAt c l i st) (hi:i<l.length) :
  (a1b c [] l).take i++[a0j c st l[i]]=(a1b c [] l).take (i+1)∧i<(a1b c [] l).length∧((a0j c st l[i]).2=0→StAt c l (i+1) (a0j c st l[i]).1)∧((a0j c st l[i]).2≠0→(a1b c [] l).take (i+1)=a1b c [] l):=by
 have h1:=h.rest;rw[List.drop_eq_getElem_cons hi]at h1
 simp only[a1b]at h1
 have hlt:i<(a1b c [] l).length:=by
  rcases Nat.lt_or_ge i (a1b c [] l).length with h2|h2
  ·exact h2
  ·rw[List.drop_eq_nil_of_le h2]at h1;cases h1
 rw[List.drop_eq_getElem_cons hlt]at h1
 simp only[List.cons.injEq]at h1
 refine⟨?_,hlt,fun h0=>⟨hlt,?_⟩,fun h0=>?_⟩
 ·rw[←h1.1,a0c hlt]
 ·rw[h1.2,if_pos h0]
 ·refine List.take_of_length_le ?_;have h2:=h1.2;rw[if_neg h0]at h2
  simpa using h2
theorem StAt.last {c:List Kind} {l:List Evt} {i:Nat} {st:List Part} (h:StAt c l i st) (hi:l.length≤i):(a1b c [] l).take i=a1b c [] l:=by
 have h1:=h.rest;rw[List.drop_eq_nil_of_le hi]at h1
 exact List.take_of_length_le (by simpa[a1b]using h1)
theorem SmF.nil:SmF []:=fun _ h=>by cases h
theorem b3E {α:Type} {nm:α→ByteArray} {l:List α} {x y:α} (h:y∈a5a nm l x):y=x∨y∈l:=by
 unfold a5a at h
 split at h
 ·rcases List.mem_or_eq_of_mem_set h with h|h
  ·exact .inr h
  ·exact .inl h
 ·rcases List.mem_append.1 h with h|h
  ·exact .inr (List.mem_of_mem_take h)
  ·rcases List.mem_cons.1 h with h|h
   ·exact .inl h
   ·exact .inr (List.mem_of_mem_drop h)
theorem b3F {l:List Part} {p:Part} (h:SmF l) (hp:SmP p):SmF (c0v l p).1:=fun q hq=>by
 rcases b3E (show q∈a5a Part.name l p from hq) with rfl|hq
 ·exact hp
 ·exact h q hq
theorem a9T {c:List Kind} {l:List Part} {e:Evt} (h:SmF l) (he:SmE e):SmF (a0j c l e).1:=by
 have hz:SmP zPart:=⟨(by show (0:Nat)≤_;omega),fun q hq=>by simp[zPart]at hq⟩
 have hp:SmP (a3i l e):=by
  unfold a3i
  cases hf:a0e l e.part with
  |none=>exact hz
  |some p=>exact h p (b3a hf)
 have hn:SmP (a4J e (a3i l e)):=⟨hp.1,fun q hq=>by
  rcases b3E (show q∈a5a Prp.key (a3i l e).props ⟨e.key,e.value⟩ from hq) with rfl|hq
  ·exact he.2.2.2.2.1
  ·exact hp.2 q hq⟩
 have hnew:SmP (c9f e):=⟨he.1,fun q hq=>by simp[c9f]at hq⟩;have hfail:∀k,SmF (a5V k).1:=fun k=>SmF.nil
 unfold a0j
 split
 ·exact hfail 1
 ·split
  ·unfold a3T
   repeat' split
   all_goals first
    |exact hfail _
    |exact b3F h hnew
  ·unfold a0K
   split
   ·exact hfail _
   ·split
    ·exact hfail _
    ·unfold a2a a1v a0I a1q a1d a0N
     repeat' split
     all_goals first
      |exact hfail _
      |exact b3F h hp
      |exact b3F h hn
      |exact b3F h ⟨hp.1,hp.2⟩
end Go.Sx
set_option linter.all false
namespace Go.Sx
open Go
section
variable {α:Type} {nm:α→ByteArray}
def Inc (nm:α→ByteArray) (l:List α):Prop:=l.Pairwise fun x y=>sLt (nm x) (nm y)=true
theorem c8Z {l:List α} (h:Srt nm l):Inc nm l:=by
 rw[Inc,List.pairwise_iff_getElem];exact fun i j hi hj hij=>h i j hj hij
structure Cut (nm:α→ByteArray) (s:ByteArray) (a b:List α):Prop where
 lo:∀y∈a,sLt (nm y) s=true
 hi:∀y∈b,sLt s (nm y)=true
theorem b7H (l:List α) (s:ByteArray) (h:Inc nm l):(∃a b,l=a++b∧Cut nm s a b)∨∃a y b,l=a++y::b∧nm y=s∧Cut nm s a b:=by
 induction l with
 |nil=>exact .inl ⟨[],[],rfl,fun _ h=>(by cases h),fun _ h=>(by cases h)⟩
 |cons x r ih=>
  have h':=List.pairwise_cons.1 h
  cases hx:sLt (nm x) s with
  |true=>
   rcases ih h'.2 with ⟨a,b,rfl,hc⟩|⟨a,y,b,rfl,hy,hc⟩
   ·exact .inl ⟨x::a,b,rfl,fun y hy=>by rcases List.mem_cons.1 hy with rfl|hy;exact hx;exact hc.lo y hy,hc.hi⟩
   ·exact .inr ⟨x::a,y,b,rfl,hy,fun y hy=>by rcases List.mem_cons.1 hy with rfl|hy;exact hx;exact hc.lo y hy,hc.hi⟩
  |false=>
   by_cases he:nm x=s
   ·subst he;exact .inr ⟨[],x,r,rfl,rfl,fun _ h=>(by cases h),fun y hy=>h'.1 y hy⟩
   ·have hs:sLt s (nm x)=true:=by
     cases hs:sLt s (nm x) with
     |true=>rfl
     |false=>exact absurd (b3J hx hs) he
    exact .inl ⟨[],x::r,rfl,fun _ h=>(by cases h),fun y hy=>by
     rcases List.mem_cons.1 hy with rfl|hy
     ·exact hs
     ·exact a2B hs (h'.1 y hy)⟩
theorem c3H {a b:List α} {s:ByteArray} (hc:Cut nm s a b):a6y nm (a++b) s=a.length:=by
 refine b8J (by simp) (fun q x hq hx=>?_) fun q x hq hx=>?_
 ·rw[List.getElem?_append_left hq]at hx
  exact hc.lo x (List.mem_of_getElem? hx)
 ·rw[List.getElem?_append_right hq]at hx
  exact b5q (hc.hi x (List.mem_of_getElem? hx))
theorem b8I {a b:List α} {y:α} {s:ByteArray} (hc:Cut nm s a b) (hy:nm y=s):a6y nm (a++y::b) s=a.length:=by
 refine b8J (by simp) (fun q x hq hx=>?_) fun q x hq hx=>?_
 ·rw[List.getElem?_append_left hq]at hx
  exact hc.lo x (List.mem_of_getElem? hx)
 ·rw[List.getElem?_append_right hq]at hx
  rcases List.mem_cons.1 (List.mem_of_getElem? hx) with rfl|hx
  ·rw[hy];exact a1K s
  ·exact b5q (hc.hi x hx)
theorem c1j {a b:List α} {s:ByteArray} (hc:Cut nm s a b):atF nm (a++b) s=false:=by
 unfold atF;rw[c3H hc]
 cases b with
 |nil=>simp
 |cons y r=>
  rw[List.getElem?_append_right (Nat.le_refl _),Nat.sub_self]
  simp only[List.getElem?_cons_zero,decide_eq_false_iff_not]
  rintro rfl;have:=hc.hi y (by simp);rw[a1K]at this;cases this
theorem b5R {a b:List α} {y:α} {s:ByteArray} (hc:Cut nm s a b) (hy:nm y=s):atF nm (a++y::b) s=true:=by
 unfold atF;rw[b8I hc hy,List.getElem?_append_right (Nat.le_refl _),Nat.sub_self]
 simp[hy]
theorem b6M {a b:List α} {x:α} (hc:Cut nm (nm x) a b):a5a nm (a++b) x=a++x::b:=by
 unfold a5a;rw[c1j hc,c3H hc,if_neg (by decide)]
 simp
theorem b3G {a b:List α} {x y:α} (hc:Cut nm (nm x) a b) (hy:nm y=nm x):a5a nm (a++y::b) x=a++x::b:=by
 unfold a5a;rw[b5R hc hy,b8I hc hy,if_pos rfl]
 simp
theorem c2y {a b:List α} {x:α} (ha:Inc nm a) (hb:Inc nm b) (hc:Cut nm (nm x) a b):Inc nm (a++x::b):=by
 rw[Inc,List.pairwise_append,List.pairwise_cons]
 exact⟨ha,⟨hc.hi,hb⟩,fun y hy z hz=>by
  rcases List.mem_cons.1 hz with rfl|hz
  ·exact hc.lo y hy
  ·exact a2B (hc.lo y hy) (hc.hi z hz)⟩
theorem a4j {l:List α} (x:α) (h:Inc nm l):Inc nm (a5a nm l x):=by
 rcases b7H l (nm x) h with ⟨a,b,rfl,hc⟩|⟨a,y,b,rfl,hy,hc⟩
 ·rw[b6M hc];rw[Inc,List.pairwise_append]at h
  exact c2y h.1 h.2.1 hc
 ·rw[b3G hc hy];rw[Inc,List.pairwise_append,List.pairwise_cons]at h
  exact c2y h.1 h.2.1.2 hc
theorem b4r {a b:List α} {s:ByteArray} (hc:Cut nm s a b) {y:α} (hy:y∈a∨y∈b):nm y≠s:=by
 rintro rfl
 rcases hy with hy|hy
 ·have:=hc.lo y hy;rw[a1K]at this;cases this
 ·have:=hc.hi y hy;rw[a1K]at this;cases this
theorem a2X {l:List α} {x z:α} (h:Inc nm l):z∈a5a nm l x↔z=x∨(z∈l∧nm z≠nm x):=by
 rcases b7H l (nm x) h with ⟨a,b,rfl,hc⟩|⟨a,y,b,rfl,hy,hc⟩
 ·rw[b6M hc]
  simp only[List.mem_append,List.mem_cons]
  constructor
  ·rintro (h|h|h)
   ·exact .inr ⟨.inl h,b4r hc (.inl h)⟩
   ·exact .inl h
   ·exact .inr ⟨.inr h,b4r hc (.inr h)⟩
  ·rintro (h|⟨h|h,_⟩)
   ·exact .inr (.inl h)
   ·exact .inl h
   ·exact .inr (.inr h)
 ·rw[b3G hc hy]
  simp only[List.mem_append,List.mem_cons]
  constructor
  ·rintro (h|h|h)
   ·exact .inr ⟨.inl h,b4r hc (.inl h)⟩
   ·exact .inl h
   ·exact .inr ⟨.inr (.inr h),b4r hc (.inr h)⟩
  ·rintro (h|⟨h|h|h,hn⟩)
   ·exact .inr (.inl h)
   ·exact .inl h
   ·subst h;exact absurd hy hn
   ·exact .inr (.inr h)
theorem b3b {l:List α} (h:Inc nm l) {x y:α} (hx:x∈l) (hy:y∈l) (he:nm x=nm y):x=y:=by
 obtain⟨i,hi,rfl⟩:=List.getElem_of_mem hx;obtain⟨j,hj,rfl⟩:=List.getElem_of_mem hy;rw[Inc,List.pairwise_iff_getElem]at h
 rcases Nat.lt_trichotomy i j with hij|rfl|hij
 ·have:=h i j hi hj hij;rw[he,a1K]at this;cases this
 ·rfl
 ·have:=h j i hj hi hij;rw[he,a1K]at this;cases this
theorem b6m:∀{l m:List α},Inc nm l→Inc nm m→(∀x,x∈l↔x∈m)→l=m
 | [],[],_,_,_=>rfl
 | [],y::m,_,_,h=>by have:=(h y).2 (by simp);cases this
 |x::l,[],_,_,h=>by have:=(h x).1 (by simp);cases this
 |x::l,y::m,h1,h2,h=>by
  have h1':=List.pairwise_cons.1 h1;have h2':=List.pairwise_cons.1 h2
  have hxy:x=y:=by
   rcases List.mem_cons.1 ((h x).1 (by simp)) with e|hx
   ·exact e
   ·rcases List.mem_cons.1 ((h y).2 (by simp)) with e|hy
    ·exact e.symm
    ·have a:=h2'.1 x hx;have b:=h1'.1 y hy;have:=a2B a b;rw[a1K]at this;cases this
  subst hxy
  congr 1
  refine b6m h1'.2 h2'.2 fun z=>?_
  have hz:=h z
  simp only[List.mem_cons]at hz
  constructor
  ·intro hzl
   rcases hz.1 (.inr hzl) with rfl|hm
   ·have:=h1'.1 z hzl;rw[a1K]at this;cases this
   ·exact hm
  ·intro hzm
   rcases hz.2 (.inr hzm) with rfl|hm
   ·have:=h2'.1 z hzm;rw[a1K]at this;cases this
   ·exact hm
theorem put_comm {l:List α} {x y:α} (h:Inc nm l) (hn:nm x≠nm y):a5a nm (a5a nm l x) y=a5a nm (a5a nm l y) x:=by
 refine b6m (a4j y (a4j x h)) (a4j x (a4j y h)) fun z=>?_
 rw[a2X (a4j x h),a2X h,a2X (a4j y h),a2X h]
 constructor
 ·rintro (rfl|⟨rfl|⟨h1,h2⟩,h3⟩)
  ·exact .inr ⟨.inl rfl,fun e=>hn e.symm⟩
  ·exact .inl rfl
  ·exact .inr ⟨.inr ⟨h1,h3⟩,h2⟩
 ·rintro (rfl|⟨rfl|⟨h1,h2⟩,h3⟩)
  ·exact .inr ⟨.inl rfl,hn⟩
  ·exact .inl rfl
  ·exact .inr ⟨.inr ⟨h1,h3⟩,h2⟩
theorem b3H {l:List α} {x:α} (h:Inc nm l):(a5a nm l x).length=if atF nm l (nm x)=true then l.length else l.length+1:=by
 rcases b7H l (nm x) h with ⟨a,b,rfl,hc⟩|⟨a,y,b,rfl,hy,hc⟩
 ·rw[b6M hc,c1j hc];simp;omega
 ·rw[b3G hc hy,b5R hc hy];simp
theorem b7R {l:List α} (h:Inc nm l) {x:α} (hx:x∈l):l.find? (fun y=>decide (nm y=nm x))=some x:=by
 cases hf:l.find? fun y=>decide (nm y=nm x) with
 |none=>
  rw[List.find?_eq_none]at hf
  have:=hf x hx
  simp at this
 |some y=>
  have h1:=List.mem_of_find?_eq_some hf;have h2:=List.find?_some hf;rw[b3b h h1 hx (by simpa using h2)]
theorem a1E {l:List α} (h:Inc nm l) {s:ByteArray} {x:α}:l.find? (fun y=>decide (nm y=s))=some x↔x∈l∧nm x=s:=by
 constructor
 ·intro hf;exact⟨List.mem_of_find?_eq_some hf,by simpa using List.find?_some hf⟩
 ·rintro⟨hx,rfl⟩;exact b7R h hx
theorem b0r {l:List α} {s:ByteArray}:l.find? (fun y=>decide (nm y=s))=none↔∀x∈l,nm x≠s:=by
 rw[List.find?_eq_none];simp
theorem b8L {l:List α} {x:α} (h:Inc nm l) (s:ByteArray):(a5a nm l x).find? (fun y=>decide (nm y=s))=if nm x=s then some x else l.find? fun y=>decide (nm y=s):=by
 have h1:=a4j x h
 split
 ·rename_i e;subst e;exact b7R h1 ((a2X h).2 (.inl rfl))
 ·rename_i e
  cases hf:l.find? fun y=>decide (nm y=s) with
  |none=>
   rw[b0r]at hf ⊢
   intro z hz
   rcases (a2X h).1 hz with rfl|⟨hz,_⟩
   ·exact e
   ·exact hf z hz
  |some y=>
   rw[a1E h]at hf
   rw[a1E h1];exact⟨(a2X h).2 (.inr ⟨hf.1,fun e'=>e (e'.symm.trans hf.2)⟩),hf.2⟩
theorem a9Y {l:List α} (h:Inc nm l) (s:ByteArray):atF nm l s=(l.find? fun y=>decide (nm y=s)).isSome:=by
 rcases b7H l s h with ⟨a,b,rfl,hc⟩|⟨a,y,b,rfl,hy,hc⟩
 ·rw[c1j hc];have:(a++b).find? (fun y=>decide (nm y=s))=none:=b0r.2 fun x hx=>b4r hc (List.mem_append.1 hx)
  rw[this];rfl
 ·rw[b5R hc hy];have:(a++y::b).find? (fun y=>decide (nm y=s))=some y:=(a1E h).2 ⟨by simp,hy⟩;rw[this];rfl
theorem c7t {l:List α} {x:α} (h:Inc nm l) (hx:x∈l):a5a nm l x=l:=
 b6m (a4j x h) h fun z=>by
  rw[a2X h]
  constructor
  ·rintro (rfl|⟨h1,_⟩)
   ·exact hx
   ·exact h1
  ·intro hz
   by_cases e:nm z=nm x
   ·exact .inl (b3b h hz hx e)
   ·exact .inr ⟨hz,e⟩
end
end Go.Sx
set_option linter.all false
namespace Go.Sx
open Go
theorem d0x {l:List Evt} {n:Int} (h:c5X l n=true):(∀e∈l,SmE e)∧((l.length:Nat):Int)≤n:=by
 simp only[c5X,Bool.and_eq_true,decide_eq_true_eq]at h
 refine⟨fun e he=>?_,h.2⟩;obtain⟨_,h1⟩:=a3P h.1 he
 simp only[a6g,Bool.and_eq_true,decide_eq_true_eq]at h1
 refine⟨?_,?_,?_,?_,?_,?_⟩<;>unfold Sm<;>omega
theorem c2g {c:List Kind} (h:c5W c=true):SmC c:=by
 simp only[c5W,Bool.and_eq_true,Bool.not_eq_true',decide_eq_false_iff_not]at h
 intro k hk;obtain⟨_,h1⟩:=a3P h.2 hk
 simp only[a3B,Bool.and_eq_true,Bool.not_eq_true',Bool.or_eq_false_iff,decide_eq_false_iff_not]at h1
 refine⟨by unfold Sm;omega,fun s hs=>?_⟩;obtain⟨_,h2⟩:=a3P h1.2 hs
 simp only[a4T,Bool.and_eq_true,Bool.not_eq_true',Bool.or_eq_false_iff,decide_eq_false_iff_not]at h2
 refine⟨by unfold Sm;omega,fun q hq=>?_⟩;obtain⟨_,h3⟩:=a3P h2.2 hq
 simp only[Bool.not_eq_true',decide_eq_false_iff_not]at h3
 unfold Sm;omega
def d4I:ByteArray:=⟨#[109,111,116,111,114]⟩
def b2i:ByteArray:=⟨#[99,111,97,99,104]⟩
def nM:ByteArray:=⟨#[109]⟩
def nM1:ByteArray:=⟨#[109,49]⟩
def nV1:ByteArray:=⟨#[118,49]⟩
end Go.Sx
set_option linter.all false
namespace Go.Sx
open Go
section
variable {α:Type} [Day α]
def Beg (s:List α) (a:Nat):Prop:=∀j x y,j<a→s[j]? = some x→s[a]? = some y→Day.day x<Day.day y
theorem Beg.zero (s:List α):Beg s 0:=fun j x y h=>absurd h (Nat.not_lt_zero j)
end
theorem c4c {c:List Kind} {l:List Evt} (h:(b6X c l).2.2=0):a1I c=true:=by
 unfold b6X at h
 split at h
 ·cases h
 ·rename_i hv;simpa using hv
theorem d2i {c:List Kind} (hc:a1I c=true) (l:List Evt):b6X c l=b1K c [] 0 (a1N l):=by unfold b6X;rw[if_neg (by simp[hc])]
def upD (l:List Evt) (day:Int):List Evt:=l.filter fun e=>!decide (e.day>day)
theorem d6W (c:List Kind) (l:List Evt) (day:Int):a3U c l day=b6X c (upD l day):=rfl
theorem a7E (s:ByteArray):a1p s=a3D s:=by
  rw[Bool.eq_iff_iff]
  simp only[a1p,a3D,Bool.and_eq_true,Bool.not_eq_true',decide_eq_false_iff_not,decide_eq_true_eq,a8r,a8U,List.all_eq_true,List.mem_range,a2R,a7w,Bool.or_eq_true]
  have he:s=⟨#[]⟩↔s.size=0:=by
    constructor
    · rintro rfl;rfl
    · intro h
      cases s with|mk d=>congr 1;exact Array.eq_empty_of_size_eq_zero h
  constructor
  · rintro⟨h1,h2,h3⟩
    have hp : 0 < s.size := by rcases Nat.eq_zero_or_pos s.size with h | h; · exact absurd (he.2 h) h2
                               · exact h
    refine⟨fun i hi=>?_,⟨oM,h3⟩,?_⟩
    · rcases h1 i hi with h|⟨_,h|h⟩
      · exact .inl (.inl h)
      · exact .inl (.inr h)
      · exact .inr h
    · rcases h1 0 hp with h|⟨h,_⟩
      · exact h
      · exact absurd rfl h
  · rintro⟨h1,⟨h2,h3⟩,h4⟩
    refine⟨fun i hi=>?_,fun h=>by have:=he.1 h;omega,h3⟩
    by_cases h0:i=0
    · subst h0;exact .inl h4
    · rcases h1 i hi with (h|h)|h
      · exact .inl h
      · exact .inr ⟨h0,.inl h⟩
      · exact .inr ⟨h0,.inr h⟩
end Go.Sx
set_option linter.all false
namespace Go.Sx
open Go
def c5l (i:Ivl):Bool:=(decide (0≤i.low)&&decide (i.low≤i.high))&&decide (i.high≤1000000)
theorem d0T (i:Ivl):c5l i=b1H i:=by
 unfold c5l b1H;rw[Bool.eq_iff_iff];simp
def c9u (u:Use):Bool:=(c5l u.km&&c5l u.cycles)&&c5l u.load
theorem c4E (u:Use):c9u u=b1N u 3:=by
 simp only[c9u,b1N,d0T]
 simp[List.range_succ,b5B,Bool.and_assoc]
def b9v (e:Evt):Evt:=⟨e.op,e.day,e.part,a0M,a0M,a0M,a0M,a0M,c8D⟩
def a7y (e:Evt):Evt:=
 if e.op=1 then { b9v e with kind:=e.kind } else if e.op=2 then { b9v e with into:=e.into,slot:=e.slot } else if e.op=4 then { b9v e with use:=e.use } else if e.op=6 then { b9v e with key:=e.key,value:=e.value } else b9v e
def a8x (e:Evt):Bool:=
 if e.op=1 then a3D e.kind else if e.op=2 then (a3D e.into&&a3D e.slot) && !decide (e.into=e.part) else if e.op=4 then c9u e.use else if e.op=6 then (a3D e.key&&decide ((1:Int)≤(e.value.size:Nat)))&&decide (((e.value.size:Nat):Int)≤200) else true
def a7n (e:Evt):Bool:=(((decide (e.op<1)||decide (7<e.op))||decide (e.day<0))||decide (40000<e.day)) || !a3D e.part
def b1o (e:Evt):Bool:=!a7n e&&(a8x e&&decide (a7y e=e))
theorem c7V {s:ByteArray}:s=a0M↔s.size=0:=by
 constructor
 ·rintro rfl;rfl
 ·intro h
  cases s with|mk d=>congr 1;exact Array.eq_empty_of_size_eq_zero h
theorem d4K (s:ByteArray):decide ((1:Int)≤(s.size:Nat)) = !decide (s=a0M):=by
 rw[←decide_not,decide_eq_decide,c7V];omega
theorem d4z (a b:Int):decide (a≤b) = !decide (b<a):=by
 rw[←decide_not,decide_eq_decide];omega
theorem c2b (e:Evt):a7n e=b0p e:=by
 unfold a7n b0p;rw[a7E]
 congr 3
 rw[Bool.eq_iff_iff,Bool.or_eq_true,decide_eq_true_eq,decide_eq_true_eq,decide_eq_true_eq,b5K]
 omega
theorem c2F (e:Evt):decide (a7y e=e)=decide (a6e e=d6v):=by
 rw[decide_eq_decide];unfold a7y a6e b9v d6v;obtain⟨op,day,part,kind,into,slot,key,value,use⟩:=e
 by_cases h1:op=1
 ·subst h1;simp[eq_comm]
 by_cases h2:op=2
 ·subst h2;simp[eq_comm]
 by_cases h4:op=4
 ·subst h4;simp[eq_comm]
 by_cases h6:op=6
 ·subst h6;simp[eq_comm]
 ·simp[h1,h2,h4,h6,eq_comm]
theorem d0M (e:Evt):a8x e=(!a5O e && !((a1T e).any fun s=>!a1p s)):=by
 unfold a8x a5O a1T
 by_cases h1:e.op=1
 ·simp[h1,a7E]
 by_cases h2:e.op=2
 ·simp[h2,a7E,Bool.and_comm]
 by_cases h4:e.op=4
 ·simp[h4,c4E]
 by_cases h6:e.op=6
 ·rw[if_neg h1,if_neg h2,if_neg h4,if_pos h6,if_neg h2,if_pos h6,if_neg h1,if_neg h2,if_pos h6,d4K,d4z]
  simp only[List.any_cons,List.any_nil,a7E]
  cases a3D e.key<;>cases decide (e.value=a0M)<;>cases decide ((200:Int)<(e.value.size:Nat))<;>rfl
 ·simp[h1,h2,h4,h6]
theorem a8S (e:Evt):b1o e=a1D e:=by
 unfold b1o a1D;rw[c2b,d0M,c2F]
 cases b0p e<;>cases a5O e<;>cases decide (a6e e=d6v)<;>cases (a1T e).any fun s=>!a1p s<;>rfl
section
variable {α:Type} (nm:α→ByteArray) (x:α)
variable {nm x}
end
section
variable {α:Type} {nm:α→ByteArray} {x:α} {l:List α} {i:Nat} {out:List α} {b:Bool}
end
end Go.Sx
set_option linter.all false
namespace Go.Sx
open Go
def upP (st:List Part) (n:ByteArray):ByteArray:=((a0e st n).getD zPart).into
def a3r (st:List Part) (v:ByteArray):Nat→ByteArray→Bool
 |0,_=>false
 |k+1,n=>!decide (upP st n=a0M)&&(decide (upP st n=v)||a3r st v k (upP st n))
def a7c (st:List Part) (v n:ByteArray):Prop:=((a0e st v).isSome=true∧(a0e st n).isSome=true∧n≠v)∧∃k,a3r st v k n=true
def a9P (d:Ivl) (u:Use) (p:Part):Part:={ p with life:=⟨c5r p.life.km u.km,c5r p.life.cycles u.cycles,c5r p.life.damage d⟩ }
open Classical in
noncomputable def useL (st:List Part) (e:Evt) (d:Ivl):List Part:=st.map fun p=>if p.name=e.part∨a7c st e.part p.name then a9P d e.use p else p
noncomputable def applyL (f:Fm) (c:List Kind) (st:List Part) (e:Evt):b1P:=
 if (a0j c st e).2=0∧e.op=4 then (useL (a0j c st e).1 e (b2S f e.use),0) else a0j c st e
noncomputable def runLGo (f:Fm) (c:List Kind):List Part→Int→List Evt→c5o
 |s,_,[]=>(s,-1,0)
 |s,i,e::r=>if (applyL f c s e).2=0 then runLGo f c (applyL f c s e).1 (i+1) r else ([],i,(applyL f c s e).2)
noncomputable def runL (f:Fm) (c:List Kind) (l:List Evt) (day:Int):c5o:=
 if (!a1I c || !a2L f)=true then ([],-1,1) else runLGo f c [] 0 (a1N (l.filter fun e=>!decide (e.day>day)))
def d3r (p:Part):Prop:=(a3d p.life.km=true∧a3d p.life.cycles=true)∧a3d p.life.damage=true
def LfInv (st:List Part):Prop:=∀p∈st,d3r p
section
variable {c:List Kind} {f:Fm} {st:List Part} {p:Part} {e:Evt} {d:Ivl}
theorem b3T:(a3d zLife.km=true∧a3d zLife.cycles=true)∧a3d zLife.damage=true:=by decide
theorem b2d {i:Ivl}:a3d i=true↔0≤i.low∧i.low≤i.high∧i.high≤(1000000000000:Int):=by simp[a3d,and_assoc]
theorem b3s {i u:Ivl} (hi:a3d i=true) (hu:a2v u=true) (h0:0≤u.low):a3d (c5r i u)=true:=by
 have h1:=b2d.1 hi;have h2:=a0W.1 hu;rw[c9D (a0W.2 oM) hu,b2d];unfold b2u;dsimp only;omega
theorem LfInv.put {q:Part} (h:LfInv st) (hq:d3r q):LfInv (a5a Part.name st q):=fun p hp=>by
 rcases b3E hp with rfl|hp
 ·exact hq
 ·exact h p hp
theorem LfInv.apply (h:LfInv st) (e:Evt):LfInv (a0j c st e).1:=by
 have hn:∀n,LfInv (a5V n).1:=fun n p hp=>by cases hp
 have hz:d3r zPart:=b3T
 have hp:d3r (a3i st e):=by
  unfold a3i
  cases hq:a0e st e.part with
  |none=>exact hz
  |some p=>exact h p (b3a hq)
 have hput:∀q:Part,d3r q→LfInv (c0v st q).1:=fun q hq=>h.put hq
 unfold a0j
 split
 ·exact hn _
 split
 ·unfold a3T
  split
  ·exact hn _
  split
  ·exact hn _
  split
  ·exact hn _
  ·exact hput _ b3T
 ·unfold a0K
  split
  ·exact hn _
  split
  ·exact hn _
  ·unfold a2a
   split
   ·unfold a1v
    split
    ·exact hn _
    split
    ·exact hn _
    split
    ·exact hn _
    ·exact hput _ hp
   split
   ·unfold a0I
    split
    ·exact hn _
    ·exact hput _ hp
   split
   ·unfold a1q
    split
    ·exact hn _
    ·exact hput _ hp
   split
   ·exact hput _ b3T
   split
   ·unfold a1d
    split
    ·exact hn _
    ·exact hput _ hp
   split
   ·unfold a0N
    split
    ·exact hn _
    ·exact hput _ hp
   ·exact hput _ hp
theorem LfInv.use (h:LfInv st) (hu:a2v e.use.km=true∧0≤e.use.km.low) (hu2:a2v e.use.cycles=true∧0≤e.use.cycles.low) (hd:a2v d=true∧0≤d.low):LfInv (useL st e d):=fun p hp=>by
 unfold useL at hp
 obtain⟨q,hq,rfl⟩:=List.mem_map.1 hp;have h1:=h q hq
 split
 ·exact⟨⟨b3s h1.1.1 hu.1 hu.2,b3s h1.1.2 hu2.1 hu2.2⟩,b3s h1.2 hd.1 hd.2⟩
 ·exact h1
theorem a9U (h:(a0j c st e).2=0):a1D e=true:=by
 unfold a0j at h
 split at h
 ·cases h
 ·rename_i h2
  have:a4S c st=true∧a1D e=true:=by simpa using h2
  exact this.2
theorem d2l (h:a1D e=true) (h4:e.op=4):(a2v e.use.km=true∧0≤e.use.km.low)∧(a2v e.use.cycles=true∧0≤e.use.cycles.low)∧b1N e.use 3=true:=by
 have hu:b1N e.use 3=true:=by
  simp only[a1D,Bool.and_eq_true,Bool.not_eq_true']at h
  have h2:=h.1.1.2;unfold a5O at h2
  rw[if_neg oM,if_neg oM,if_pos h4]at h2
  simpa using h2
 have hu2:=hu;rw[←c4E]at hu2
 simp only[c9u,c5l,Bool.and_eq_true,decide_eq_true_eq]at hu2
 exact⟨⟨a0W.2 oM,oM⟩,⟨a0W.2 oM,oM⟩,hu⟩
theorem a3x:(applyL f c st e).2=(a0j c st e).2:=by
 unfold applyL
 split
 ·rename_i h;exact h.1.symm
 ·rfl
theorem LfInv.step (h:LfInv st):LfInv (applyL f c st e).1:=by
 unfold applyL
 split
 ·rename_i hc
  have hu:=d2l (a9U hc.1) hc.2;exact (h.apply e).use hu.1 hu.2.1 d0k
 ·exact h.apply e
theorem LfInv.nil:LfInv []:=fun p h=>by cases h
end
end Go.Sx
set_option linter.all false
namespace Go.Sx
open Go
structure Stp where
 kinds:List Kind
 dam:Fm
instance:Enc Stp where
 k:=4
 rd I vs x:=∃vc sf,vs=[vc,ci x.dam.op,ci x.dam.n,sf]∧RdS I vc x.kinds∧FmRd I [ci x.dam.op,ci x.dam.n,sf] x.dam
 len h:=by obtain⟨_,_,rfl,_⟩:=h;rfl
 mono hI h:=by obtain⟨a,b,rfl,h1,h2⟩:=h;exact⟨a,b,rfl,h1.le hI,h2.le hI⟩
 one h:=by
  obtain⟨a,b,rfl,h1,h2⟩:=h;have h3:=Enc.one (α:=Fm) h2;obtain⟨A,c,rfl,_⟩:=h1
  simp at h3 ⊢
  exact⟨rfl,h3⟩
def d6M (x:Stp):Prop:=(∀k∈x.kinds,d6x k)∧OkFm x.dam
section
variable {P:Program} {t:TypeId}
theorem b6H {tc tf:TypeId} (hf:a0C P t=some [(tc,0,1),(tf,1,3)]) (hc:P.cellsOf t=4) (h1:a0X P tc (List Kind) (fun l=>∀k∈l,d6x k)) (h2:a0X P tf Fm OkFm):a0X P t Stp d6M:=by
 intro H enc w base spare held fuel cs x h;obtain⟨hl,hall⟩:=a0U hf h;rw[hc]at hl
 obtain⟨a0,r0_,rfl,l0_⟩:=a0f hl;obtain⟨a1,r1_,rfl,l1_⟩:=a0f l0_;obtain⟨a2,r2_,rfl,l2_⟩:=a0f l1_;obtain⟨a3,r3_,rfl,l3_⟩:=a0f l2_;obtain rfl:=a2y l3_;obtain⟨n0,y0,h0⟩:=hall (tc,0,1) (by simp);obtain⟨x0,⟨v0,e0,r0⟩,g0⟩:=h1 enc w base spare held n0 _ y0 h0;have e0:[a0]=[v0]:=e0
 cases e0
 obtain⟨n1,y1,h1⟩:=hall (tf,1,3) (by simp);obtain⟨x1,r1,g1⟩:=h2 enc w base spare held n1 _ y1 h1;have r1:FmRd (Iw w) [a1,a2,a3] x1:=r1;obtain⟨s,e1,_⟩:=a2k r1
 simp only[List.cons.injEq,and_true]at e1
 obtain⟨rfl,rfl,rfl⟩:=e1;exact⟨⟨x0,x1⟩,⟨_,_,rfl,r0,r1⟩,g0,g1⟩
theorem b2q {ts ti:TypeId} (hf:a0C P t=some [(ti,0,1),(ti,1,1),(ts,2,1)]) (hc:P.cellsOf t=3) (hs:P.underlying ts=some (.slice t)) (hi:P.underlying ti=some (.int .i64)):a0X P t Fm OkFm:=by
 unfold a0C at hf
 split at hf
 ·rename_i fs h1
  exact c6X h1 (Option.some.inj hf) hc hs hi
 ·cases hf
end
end Go.Sx
set_option linter.all false
namespace Go.Sx
open Go
structure Rep where
 options:List Evt
 doubtful:Bool
 deriving DecidableEq
def Rep.cells (r:Rep) (s:Value):List Value:=[s,.bool r.doubtful]
instance:Enc Rep where
 k:=2
 rd I vs x:=∃s,vs=x.cells s∧RdS I s x.options
 len h:=by obtain⟨ks,rfl,_⟩:=h;rfl
 mono hI h:=by obtain⟨ks,rfl,h⟩:=h;exact⟨ks,rfl,h.le hI⟩
 one h:=by obtain⟨ks,rfl,h⟩:=h;obtain⟨A,c,rfl,_⟩:=h;rfl
instance:Enc UInt8 where
 k:=1
 rd _ vs x:=vs=[.int .u8 x.toNat]
 len h:=by rw[h];rfl
 mono _ h:=h
 one h:=by rw[h];rfl
structure Pkd where
 e:Evt
 rep:Int
 lo:0≤e.day
 hi:e.day≤40000
def Pkd.cells (p:Pkd):List Value:=p.e.cells++[ci p.rep]
instance:Enc Pkd where
 k:=15
 rd _ vs x:=vs=x.cells
 len h:=by rw[h];rfl
 mono _ h:=h
 one h:=by rw[h];rfl
instance:Day Pkd:=⟨fun p=>p.e.day,Pkd.cells,15,fun _=>rfl⟩
def a4z (pre:List Evt) (e:Evt):Bool:=!(hit id pre e || !a1D e)
def a0g (r:Rep):Bool:=!(decide (((r.options.length:Nat):Int)=0)||decide ((4:Int)<(r.options.length:Nat)))&&a3v a4z r.options r.options.length
def chs (r:Rep):Int:=if a0g r=false then 0 else if r.doubtful=true then ((r.options.length:Nat):Int)+1 else ((r.options.length:Nat):Int)
theorem a5p {r:Rep} (h:a0g r=true):∀e∈r.options,a1D e=true:=by
 intro e he
 simp only[a0g,Bool.and_eq_true]at h
 obtain⟨pre,h1⟩:=a3P h.2 he
 simp only[a4z,Bool.not_eq_true',Bool.or_eq_false_iff,Bool.not_eq_false']at h1
 exact h1.2
theorem c0R {e:Evt} (h:a1D e=true):0≤e.day∧e.day≤40000:=by
 simp only[a1D,Bool.and_eq_true,Bool.not_eq_true']at h
 have h1:=h.1.1.1
 simp only[b0p,Bool.or_eq_false_iff,decide_eq_false_iff_not]at h1
 omega
def at2 {β:Type} (f:Rep→Int→β) (l:List Rep) (ch:List Int) (i:Nat):Option β:=match l[i]?,ch[i]? with|some r,some k=>some (f r k)|_,_=>none
theorem a3l {β:Type} {f:Rep→Int→β} {l:List Rep} {ch:List Int} {i:Nat} (h1:i<l.length) (h2:i<ch.length):at2 f l ch i=some (f l[i] ch[i]):=by
 simp[at2,h1,h2]
def a8o (f:Rep→Int→Bool) (l:List Rep) (ch:List Int) (n:Nat):Bool:=(List.range n).all fun i=>(at2 f l ch i).getD true
theorem a8p {f:Rep→Int→Bool} {l:List Rep} {ch:List Int} {i:Nat} (h:a8o f l ch i=true) (h1:i<l.length) (h2:i<ch.length) (hf:f l[i] ch[i]=true):a8o f l ch (i+1)=true:=
 a7d h (by simp[a3l h1 h2,hf])
theorem b3X {f:Rep→Int→Bool} {l:List Rep} {ch:List Int} {i n:Nat} (hn:i<n) (h1:i<l.length) (h2:i<ch.length) (hf:f l[i] ch[i]=false):a8o f l ch n=false:=
 a9S (p:=fun i=>(at2 f l ch i).getD true) hn (by simp[a3l h1 h2,hf])
theorem b7u {f:Rep→Int→Bool} {l:List Rep} {ch:List Int} {n i:Nat} (h:a8o f l ch n=true) (hi:i<n) (h1:i<l.length) (h2:i<ch.length):f l[i] ch[i]=true:=by
 rw[a8o,List.all_eq_true]at h
 have:=h i (List.mem_range.2 hi)
 simpa[a3l h1 h2]using this
def a8W (least:Int) (r:Rep) (k:Int):Bool:=!((decide (chs r=0)||decide (k<least))||decide (chs r≤k))
def a1L (c:List Kind) (l:List Rep) (ch:List Int) (least:Int):Bool:=!(!a1I c || !decide (((ch.length:Nat):Int)=(l.length:Nat)))&&a8o (a8W least) l ch l.length
def a5A (day:Int) (r:Rep) (k:Int):Option Evt:=if 0≤k then (match r.options[k.toNat]? with|some e=>if e.day<day then some e else none|none=>none) else none
def pkd (day:Int) (l:List Rep) (ch:List Int) (i:Nat):Option Pkd:=match (at2 (a5A day) l ch i).join with
 |some e=>if h:0≤e.day∧e.day≤40000 then some ⟨e,i,h.1,h.2⟩ else none
 |none=>none
def a3j (day:Int) (l:List Rep) (ch:List Int) (n:Nat):List Pkd:=(List.range n).filterMap (pkd day l ch)
theorem a7O (day:Int) (l:List Rep) (ch:List Int) (i:Nat):a3j day l ch (i+1)=a3j day l ch i++(pkd day l ch i).toList:=by
 rw[a3j,List.range_succ,List.filterMap_append,a3j]
 congr 1
def a2P (c:List Kind):List Part→List Pkd→Int×Int
 |_,[]=>(-1,0)
 |st,p::r=>if (a0j c st p.e).2=0 then a2P c (a0j c st p.e).1 r else (p.rep,(a0j c st p.e).2)
def a5w (c:List Kind) (l:List Rep) (ch:List Int) (day:Int):Int×Int:=a2P c [] (a1N (a3j day l ch l.length))
def b0q (c:List Kind) (l:List Rep) (ch:List Int):Int×Int:=if a1L c l ch 0=false then (-1,1) else a5w c l ch 40001
def isF (c:List Kind) (l:List Rep) (ch:List Int):Bool:=decide ((b0q c l ch).2=0)
def a1l (l:List Rep) (ch:List Int) (n:Nat):List Int:=(List.range n).flatMap fun i=>(at2 (fun r k=>if k<0 then r.options.map Evt.day else []) l ch i).getD []
def a5I (l:List Int):Int:=l.foldl (fun a d=>if d<a then d else a) 40001
def a1B (c:List Kind) (l:List Rep) (ch:List Int):Bool:=if a1L c l ch (-1)=false then false else !decide ((a5w c l ch (a5I (a1l l ch l.length))).2=0)
end Go.Sx
set_option linter.all false
namespace Go.Sx
open Go
def d8k (r:Rep):Prop:=∀e∈r.options,OkE e
section
variable {P:Program} {t:TypeId}
theorem c3r {tb tk:TypeId} (hf:a0C P t=some [(tk,0,1),(tb,1,1)]) (hc:P.cellsOf t=2) (hk:a0X P tk (List Evt) (fun l=>∀x∈l,OkE x)) (hb:a0X P tb Bool (fun _=>True)):a0X P t Rep d8k:=by
 intro H enc w base spare held fuel cs x h;obtain⟨hl,hall⟩:=a0U hf h;rw[hc]at hl
 obtain⟨a0,r0_,rfl,l0_⟩:=a0f hl;obtain⟨a1,r1_,rfl,l1_⟩:=a0f l0_;obtain rfl:=a2y l1_;obtain⟨n0,y0,h0⟩:=hall (tk,0,1) (by simp);obtain⟨x0,e0,g0⟩:=hk enc w base spare held n0 _ y0 h0;obtain⟨v0,e0,r0⟩:=e0;have e0:[a0]=[v0]:=e0
 cases e0
 obtain⟨n1,y1,h1⟩:=hall (tb,1,1) (by simp);obtain⟨x1,e1,g1⟩:=hb enc w base spare held n1 _ y1 h1;have e1:[a1]=[.bool x1]:=e1
 cases e1
 exact⟨⟨x0,x1⟩,⟨_,rfl,r0⟩,g0⟩
end
end Go.Sx
set_option linter.all false
namespace Go.Sx
open Go
structure Dut where
 name:ByteArray
 kind:ByteArray
 key:ByteArray
 after:Int
 within:Int
 deriving DecidableEq
structure Due where
 part:ByteArray
 rule:ByteArray
 day:Int
 deriving DecidableEq
def Dut.cells (d:Dut):List Value:=[.string d.name,.string d.kind,.string d.key,ci d.after,ci d.within]
def Due.cells (d:Due):List Value:=[.string d.part,.string d.rule,ci d.day]
instance:Enc Dut where
 k:=5
 rd _ vs x:=vs=x.cells
 len h:=by rw[h];rfl
 mono _ h:=h
 one h:=by rw[h];rfl
instance:Enc Due where
 k:=3
 rd _ vs x:=vs=x.cells
 len h:=by rw[h];rfl
 mono _ h:=h
 one h:=by rw[h];rfl
section
variable {α:Type} [DecidableEq α] {lt:α→α→Bool}
def b5N (lt:α→α→Bool) (x:α):List α→List α
 | []=>[x]
 |y::l=>if lt y x=true then y::b5N lt x l else if y=x then y::l else x::y::l
def c0K (lt:α→α→Bool) (l:List α):List α:=l.foldl (fun a x=>b5N lt x a) []
theorem a9v {x z:α}:∀{l:List α},z∈b5N lt x l↔z=x∨z∈l
 | []=>by simp[b5N]
 |y::l=>by
  simp only[b5N]
  split
  ·simp only[List.mem_cons,a9v (l:=l)]
   constructor
   ·rintro (h|h|h)
    ·exact .inr (.inl h)
    ·exact .inl h
    ·exact .inr (.inr h)
   ·rintro (h|h|h)
    ·exact .inr (.inl h)
    ·exact .inl h
    ·exact .inr (.inr h)
  ·split
   ·rename_i h1 h2
    subst h2
    simp only[List.mem_cons]
    exact⟨.inr,fun h=>h.elim .inl id⟩
   ·simp only[List.mem_cons]
def SrtU (lt:α→α→Bool) (l:List α):Prop:=l.Pairwise fun a b=>lt a b=true
theorem b8c (htr:∀a b c,lt a b=true→lt b c=true→lt a c=true) {x:α}:∀{l:List α},(∀y∈l,lt y x=false→y≠x→lt x y=true)→SrtU lt l→SrtU lt (b5N lt x l)
 | [],_,_=>by simp[b5N,SrtU]
 |y::l,ht,h=>by
  obtain⟨h1,h2⟩:=List.pairwise_cons.1 h
  simp only[b5N]
  split
  ·rename_i hy
   refine List.pairwise_cons.2 ⟨fun z hz=>?_,b8c htr (fun z hz=>ht z (by simp[hz])) h2⟩
   rcases a9v.1 hz with rfl|hz
   ·exact hy
   ·exact h1 z hz
  ·split
   ·exact h
   ·rename_i hy hn
    have hxy:=ht y (by simp) (by simpa using hy) hn;refine List.pairwise_cons.2 ⟨fun z hz=>?_,h⟩
    rcases List.mem_cons.1 hz with rfl|hz
    ·exact hxy
    ·exact htr _ _ _ hxy (h1 z hz)
theorem c4l {z:α}:∀{l a:List α},z∈l.foldl (fun a x=>b5N lt x a) a↔z∈a∨z∈l
 | [],a=>by simp
 |x::l,a=>by
  rw[List.foldl_cons,c4l,a9v,List.mem_cons]
  constructor
  ·rintro ((h|h)|h)
   ·exact .inr (.inl h)
   ·exact .inl h
   ·exact .inr (.inr h)
  ·rintro (h|h|h)
   ·exact .inl (.inr h)
   ·exact .inl (.inl h)
   ·exact .inr h
theorem a8a {z:α} {l:List α}:z∈c0K lt l↔z∈l:=by unfold c0K;rw[c4l];simp
theorem b2x (htr:∀a b c,lt a b=true→lt b c=true→lt a c=true):∀{l a:List α},(∀x y,(x∈a∨x∈l)→(y∈a∨y∈l)→lt y x=false→y≠x→lt x y=true)→SrtU lt a→SrtU lt (l.foldl (fun a x=>b5N lt x a) a)
 | [],a,_,h=>h
 |x::l,a,ht,h=>by
  rw[List.foldl_cons];refine b2x htr (fun u v hu hv=>?_) (b8c htr (fun y hy=>ht x y (.inr (by simp)) (.inl hy)) h)
  have hm:∀w,(w∈b5N lt x a∨w∈l)→(w∈a∨w∈x::l):=fun w hw=>by
   rcases hw with hw|hw
   ·rcases a9v.1 hw with rfl|hw
    ·exact .inr (by simp)
    ·exact .inl hw
   ·exact .inr (by simp[hw])
  exact ht u v (hm u hu) (hm v hv)
theorem b8Y (htr:∀a b c,lt a b=true→lt b c=true→lt a c=true) {l:List α} (ht:∀x∈l,∀y∈l,lt y x=false→y≠x→lt x y=true):SrtU lt (c0K lt l):=
 b2x htr (fun x y hx hy=>ht x (hx.elim (fun h=>by cases h) id) y (hy.elim (fun h=>by cases h) id)) List.Pairwise.nil
theorem SrtU.uniq (hi:∀a,lt a a=false) (htr:∀a b c,lt a b=true→lt b c=true→lt a c=true):∀{l m:List α},SrtU lt l→SrtU lt m→(∀z,z∈l↔z∈m)→l=m
 | [],[],_,_,_=>rfl
 | [],y::m,_,_,h=>by have:=(h y).2 (by simp);cases this
 |x::l,[],_,_,h=>by have:=(h x).1 (by simp);cases this
 |x::l,y::m,h1,h2,h=>by
  obtain⟨a1,b1⟩:=List.pairwise_cons.1 h1;obtain⟨a2,b2⟩:=List.pairwise_cons.1 h2
  have e:x=y:=by
   rcases List.mem_cons.1 ((h x).1 (by simp)) with e|hx
   ·exact e
   rcases List.mem_cons.1 ((h y).2 (by simp)) with e|hy
   ·exact e.symm
   ·have:=htr _ _ _ (a1 y hy) (a2 x hx);rw[hi]at this;cases this
  subst e;have hn1:x∉l:=fun hm=>by have:=a1 x hm;rw[hi]at this;cases this
  have hn2:x∉m:=fun hm=>by have:=a2 x hm;rw[hi]at this;cases this
  rw[SrtU.uniq hi htr b1 b2 fun z=>?_]
  constructor
  ·intro hz
   rcases List.mem_cons.1 ((h z).1 (by simp[hz])) with rfl|hz2
   ·exact absurd hz hn1
   ·exact hz2
  ·intro hz
   rcases List.mem_cons.1 ((h z).2 (by simp[hz])) with rfl|hz2
   ·exact absurd hz hn2
   ·exact hz2
theorem SrtU.nodup (hi:∀a,lt a a=false) {l:List α} (h:SrtU lt l):l.Nodup:=by
 rw[List.nodup_iff_pairwise_ne];exact h.imp fun h1 e=>by subst e;rw[hi]at h1;cases h1
end
def a3u (d:Dut):Bool:=(((((a1p d.name&&a1p d.kind)&&a1p d.key)&&decide (d.after≥1))&&decide (d.after≤7))&&decide (d.within≥0))&&decide (d.within≤40000)
def d1B (p:ByteArray) (day:Int) (e:Evt):Bool:=decide (e.part=p)&&decide (e.day≤day)
def a9Z (d:Dut) (l:List Evt) (p:ByteArray) (day:Int):List Int:=(l.filter fun e=>d1B p day e&&decide (e.op=d.after)).map Evt.day
def b6w (d:Dut) (l:List Evt) (p:ByteArray) (day:Int):List Int:=(l.filter fun e=>d1B p day e&&(decide (e.op=6)&&decide (e.key=d.key))).map Evt.day
def c9d (d:Dut) (ns:List Int) (b:Int):Bool:=ns.any fun n=>decide (n≥b)&&decide (n≤b+d.within)
def a8G (d:Dut) (l:List Evt) (p:ByteArray) (day:Int):List Int:=((a9Z d l p day).filter fun b=>!c9d d (b6w d l p day) b).map fun b=>b+d.within
def a4a:List Int→Option Int
 | []=>none
 |x::l=>some (l.foldl min x)
def b6q (c:List Kind) (l:List Evt) (p:ByteArray) (day:Int):Option ByteArray:=
 if (a3U c l day).2.2=0∧(a0e (a3U c l day).1 p).isSome=true∧((a0e (a3U c l day).1 p).getD zPart).scrapped=false then some ((a0e (a3U c l day).1 p).getD zPart).kind else none
def b2U (k:ByteArray) (l:List Evt) (p:ByteArray) (day:Int) (d:Dut):Option Due:=if a3u d=true∧d.kind=k then (a4a (a8G d l p day)).map fun n=>⟨p,d.name,n⟩ else none
def b1J (ds:List Dut) (c:List Kind) (l:List Evt) (p:ByteArray) (day:Int):List Due:=match b6q c l p day with
 |none=>[]
 |some k=>ds.filterMap (b2U k l p day)
def b3q (ds:List Dut) (c:List Kind) (l:List Evt) (p:ByteArray) (day:Int):List ByteArray:=c0K sLt (((b1J ds c l p day).filter fun x=>decide (x.day<day)).map Due.rule)
section
variable {ds:List Dut} {c:List Kind} {l:List Evt} {p:ByteArray} {day:Int}
theorem c2I:SrtU sLt (b3q ds c l p day):=b8Y (lt:=sLt) (fun a b c h1 h2=>a2B h1 h2) fun x _ y _ h hn=>by
 cases h2:sLt x y with
 |true=>rfl
 |false=>exact absurd (b3J h h2) hn
theorem c2H {z:ByteArray}:z∈b3q ds c l p day↔∃x∈b1J ds c l p day,x.day<day∧x.rule=z:=by
 unfold b3q;rw[a8a,List.mem_map]
 constructor
 ·rintro⟨x,hx,rfl⟩;obtain⟨h1,h2⟩:=List.mem_filter.1 hx;exact⟨x,h1,by simpa using h2,rfl⟩
 ·rintro⟨x,hx,h,rfl⟩;exact⟨x,List.mem_filter.2 ⟨hx,by simpa using h⟩,rfl⟩
end
end Go.Sx
set_option linter.all false
namespace Go.Sx
open Go
section
variable {c:List Kind} {f:Fm} {st:List Part} {p:Part} {e:Evt} {d:Ivl} {l:List Evt}
theorem b0b {a b:Bool} (h:¬(!a || !b)=true):a=true∧b=true:=by cases a<;>cases b<;>simp_all
theorem b3Z (h:(a0j c st e).2=0):Inc Part.name st∧st.length≤20000:=by
 unfold a0j at h
 split at h
 ·cases h
 ·rename_i h2
  have:a4S c st=true∧a1D e=true:=by simpa using h2
  have h3:=b2E this.1;exact⟨c8Z h3.1,h3.2⟩
theorem c1h (h:(a0j c st e).2=0) (h4:e.op=4):(a0j c st e).1=st:=by
 have hi:=(b3Z h).1;unfold a0j at h ⊢
 split at h
 ·cases h
 ·rename_i h0
  rw[if_neg h0,if_neg oM]at *
  unfold a0K at h ⊢
  split at h
  ·cases h
  ·rename_i h1
   rw[if_neg h1]
   split at h
   ·cases h
   ·rename_i h2
    rw[if_neg h2];have hm:a3i st e∈st:=b0U (b0b h1).1;unfold a2a at h ⊢
    rw[if_neg oM,if_neg oM,if_pos h4]at *
    unfold a1q at h ⊢
    split at h
    ·cases h
    ·rename_i h3
     rw[if_neg h3];exact c7t hi hm
end
end Go.Sx
set_option linter.all false
namespace Go.Sx
open Go
theorem b7t {α:Type} {f:List α→α→Bool} {l:List α}:a3v f l l.length=true↔∀(i:Nat) (h:i<l.length),f (l.take i) l[i]=true:=by
 rw[a3v,List.all_eq_true]
 constructor
 ·intro h i hi;have:=h i (List.mem_range.2 hi)
  simpa only[List.getElem?_eq_getElem hi]using this
 ·intro h i hi;have hi:=List.mem_range.1 hi
  simp only[List.getElem?_eq_getElem hi]
  exact h i hi
theorem c5t {α:Type} {f:α→Bool} {l:List α}:a3v (fun _ x=>f x) l l.length=true↔∀x∈l,f x=true:=by
 rw[b7t]
 constructor
 ·intro h x hx;obtain⟨i,hi,rfl⟩:=List.getElem_of_mem hx;exact h i hi
 ·intro h i hi;exact h _ (List.getElem_mem hi)
theorem d1A {α:Type} {nm:α→ByteArray} {l:List α}:c3y nm l=true↔Inc nm l:=by
 constructor
 ·exact fun h=>c8Z (Srt.of_ord h)
 ·intro h;unfold c3y;rw[b7t];intro i hi;unfold b0R
  cases i with
  |zero=>simp
  |succ i=>
   have:(l.take (i+1)).getLast? = some l[i]:=by
    rw[List.getLast?_eq_getElem?,List.length_take,Nat.min_eq_left oM,List.getElem?_take,if_pos oM]
    simp
   rw[this];exact (List.pairwise_iff_getElem.1 h) i (i+1) oM hi oM
structure Sits (c:List Kind) (st:List Part) (p:Part):Prop where
 alive:p.scrapped=false
 host:∃q,q∈st∧q.name=p.into∧q.scrapped=false∧a8e c q.kind p.slot p.kind=true
structure VS (c:List Kind) (st:List Part):Prop where
 cat:a1I c=true
 len:st.length≤20000
 inc:Inc Part.name st
 right:∀p∈st,a5J c p=true
 both:∀p∈st,(p.into=a0M↔p.slot=a0M)
 sits:∀p∈st,p.into≠a0M→Sits c st p
 apart:∀p∈st,∀q∈st,p.into≠a0M→p.into=q.into→p.slot=q.slot→p=q
structure Step (c:List Kind) (st:List Part) (e:Evt) (p':Part):Prop where
  vs:VS c st
  ve:a1D e=true
  how:(e.op=1∧a0e st e.part=none∧(a8v c e.kind).isSome=true∧st.length≠20000∧p'=c9f e) ∨
    ∃p,a0e st e.part=some p∧p.scrapped=false ∧
      ((e.op=2∧∃q,a0e st e.into=some q∧q.scrapped=false∧((a8v c p.kind).getD b3S).vehicle=false∧a8e c q.kind e.slot p.kind=true∧p.into=a0M∧a0P st e=false∧p' = { p with into:=e.into,slot:=e.slot }) ∨
       (e.op=3∧p.into≠a0M∧p' = { p with into:=a0M,slot:=a0M }) ∨
       (e.op=4∧((a8v c p.kind).getD b3S).vehicle=true∧p'=p) ∨
       (e.op=5∧p'=a2r e p) ∨
       (e.op=6∧(a4J e p).props.length≤60∧p'=a4J e p) ∨
       (e.op=7∧p.into=a0M∧a1h st p.name=false∧p' = { p with scrapped:=true }))
theorem a2C {e:Evt} (h:a1D e=true):a1p e.part=true∧0≤e.day∧e.day≤40000∧(e.op=2→a1p e.into=true∧a1p e.slot=true∧e.into≠e.part)∧(e.op=6→a1p e.key=true∧e.value≠a0M∧((e.value.size:Nat):Int)≤200):=by
 simp only[a1D,b0p,Bool.and_eq_true,Bool.not_eq_true',Bool.or_eq_false_iff,decide_eq_false_iff_not,Bool.not_eq_false']at h
 obtain⟨⟨⟨⟨⟨⟨h1,h2⟩,h3⟩,h4⟩,h5⟩,h6⟩,h7⟩:=h;refine⟨h4,oM,oM,fun h8=>?_,fun h8=>?_⟩
 ·have h9:a1T e=[e.into,e.slot]:=by simp[a1T,h8]
  rw[h9]at h7
  simp only[List.any_cons,List.any_nil,Bool.or_eq_false_iff,Bool.not_eq_false']at h7
  have h10:a5O e=decide (e.into=e.part):=by simp[a5O,h8]
  rw[h10,decide_eq_false_iff_not]at h5
  exact⟨h7.1,h7.2.1,h5⟩
 ·have h9:a1T e=[e.key]:=by simp[a1T,h8]
  rw[h9]at h7
  simp only[List.any_cons,List.any_nil,Bool.or_eq_false_iff,Bool.not_eq_false']at h7
  have h10:a5O e=(decide (e.value=a0M)||decide ((200:Int)<(e.value.size:Nat))):=by simp[a5O,h8]
  rw[h10,Bool.or_eq_false_iff,decide_eq_false_iff_not,decide_eq_false_iff_not]at h5
  exact⟨h7.1,h5.1,oM⟩
theorem a4V {s:ByteArray} (h:a1p s=true):s≠a0M:=by
 rintro rfl
 simp[a1p]at h
structure RP (c:List Kind) (p:Part):Prop where
 kind:(a8v c p.kind).isSome=true
 name:a1p p.name=true
 made:0≤p.made
 since:p.made≤p.since
 since2:p.since≤40000
 few:p.props.length≤60
 props:∀q∈p.props,a6M q=true
 inc:Inc Prp.key p.props
 km:a3d p.life.km=true
 cycles:a3d p.life.cycles=true
 damage:a3d p.life.damage=true
theorem b5o {c:List Kind} {p:Part}:a5J c p=true↔RP c p:=by
 unfold a5J a4X
 simp only[Bool.and_eq_true,Bool.not_eq_true',Bool.or_eq_false_iff,Bool.not_eq_false',decide_eq_false_iff_not]
 rw[d1A,c5t]
 constructor
 ·rintro⟨⟨⟨⟨⟨⟨⟨h1,h2⟩,h3⟩,h4⟩,h5⟩,h6⟩,h7⟩,⟨⟨h8,h9⟩,h10⟩,h11⟩;exact⟨h1,h2,oM,oM,oM,oM,h7,h8,h9,h10,h11⟩
 ·rintro⟨h1,h2,h3,h4,h5,h6,h7,h8,h9,h10,h11⟩;exact⟨⟨⟨⟨⟨⟨⟨h1,h2⟩,oM⟩,oM⟩,oM⟩,oM⟩,h7⟩,⟨⟨h8,h9⟩,h10⟩,h11⟩
theorem Step.name {c:List Kind} {st:List Part} {e:Evt} {p':Part} (h:Step c st e p'):p'.name=e.part:=by
 rcases h.how with ⟨_,_,_,_,rfl⟩|⟨p,h1,_,h3⟩
 ·rfl
 ·have hn:p.name=e.part:=((a1E h.vs.inc).1 h1).2
  rcases h3 with ⟨_,q,_,_,_,_,_,_,rfl⟩|⟨_,_,rfl⟩|⟨_,_,rfl⟩|⟨_,rfl⟩|⟨_,_,rfl⟩|⟨_,_,_,rfl⟩<;>exact hn
theorem Step.kind {c:List Kind} {st:List Part} {e:Evt} {p' p:Part} (h:Step c st e p') (hp:a0e st e.part=some p):p'.kind=p.kind:=by
 rcases h.how with ⟨_,h2,_,_,rfl⟩|⟨p0,h1,_,h3⟩
 ·rw[hp]at h2;cases h2
 ·rw[hp]at h1;cases h1
  rcases h3 with ⟨_,q,_,_,_,_,_,_,rfl⟩|⟨_,_,rfl⟩|⟨_,_,rfl⟩|⟨_,rfl⟩|⟨_,_,rfl⟩|⟨_,_,_,rfl⟩<;>rfl
theorem Step.right {c:List Kind} {st:List Part} {e:Evt} {p':Part} (h:Step c st e p'):RP c p':=by
 obtain⟨v1,v2,v3,v4,v5⟩:=a2C h.ve
 rcases h.how with ⟨_,_,h3,_,rfl⟩|⟨p,h1,_,h3⟩
 ·exact⟨h3,v1,v2,Int.le_refl _,v3,by simp[c9f],fun _ h=>by simp[c9f]at h,by simp[c9f,Inc],rfl,rfl,rfl⟩
 ·have hr:=b5o.1 (h.vs.right p ((a1E h.vs.inc).1 h1).1)
  rcases h3 with ⟨_,q,_,_,_,_,_,_,rfl⟩|⟨_,_,rfl⟩|⟨_,_,rfl⟩|⟨_,rfl⟩|⟨h6,h7,rfl⟩|⟨_,_,_,rfl⟩
  ·exact⟨hr.kind,hr.name,hr.made,hr.since,hr.since2,hr.few,hr.props,hr.inc,hr.km,hr.cycles,hr.damage⟩
  ·exact⟨hr.kind,hr.name,hr.made,hr.since,hr.since2,hr.few,hr.props,hr.inc,hr.km,hr.cycles,hr.damage⟩
  ·exact hr
  ·have hs:=hr.since;have hs2:=hr.since2;refine⟨hr.kind,hr.name,hr.made,?_,?_,hr.few,hr.props,hr.inc,rfl,rfl,rfl⟩
   ·show p.made≤(if e.day>p.since then e.day else p.since);split<;>omega
   ·show (if e.day>p.since then e.day else p.since)≤40000;split<;>omega
  ·obtain⟨k1,k2,k3⟩:=v5 h6;refine⟨hr.kind,hr.name,hr.made,hr.since,hr.since2,h7,fun q hq=>?_,a4j _ hr.inc,hr.km,hr.cycles,hr.damage⟩
   rcases (a2X hr.inc).1 hq with rfl|⟨hq,_⟩
   ·simp only[a6M,k1,Bool.true_and,Bool.and_eq_true,Bool.not_eq_true',decide_eq_false_iff_not,decide_eq_true_eq]
    exact⟨k2,k3⟩
   ·exact hr.props q hq
  ·exact⟨hr.kind,hr.name,hr.made,hr.since,hr.since2,hr.few,hr.props,hr.inc,hr.km,hr.cycles,hr.damage⟩
theorem a4E {st:List Part} {e:Evt}:a0P st e=false↔∀x∈st,¬(x.into=e.into∧x.slot=e.slot):=by
 unfold a0P;rw[List.any_eq_false]
 simp
theorem a4v {st:List Part} {s:ByteArray}:a1h st s=false↔∀x∈st,x.into≠s:=by
 unfold a1h;rw[List.any_eq_false]
 simp
theorem Step.valid {c:List Kind} {st:List Part} {e:Evt} {p':Part} (h:Step c st e p'):VS c (a5a Part.name st p'):=by
 have hv:=h.vs;have hi:=hv.inc;have hn:=h.name;obtain⟨v1,v2,v3,v4,v5⟩:=a2C h.ve;have hm:∀z,z∈a5a Part.name st p'↔z=p'∨(z∈st∧z.name≠e.part):=fun z=>by rw[a2X hi,hn]
 -- the new part in its place
 have hpl:(p'.into=a0M↔p'.slot=a0M)∧(p'.into≠a0M→p'.scrapped=false∧∃q,q∈st∧q.name=p'.into∧q.scrapped=false∧a8e c q.kind p'.slot p'.kind=true) ∧
   (p'.into≠a0M→∀z∈st,z.name≠e.part→¬(z.into=p'.into∧z.slot=p'.slot))∧(p'.scrapped=true→∀z∈st,z.into≠e.part):=by
  rcases h.how with ⟨_,h2,_,_,rfl⟩|⟨p,h1,h2,h3⟩
  ·exact⟨⟨fun _=>rfl,fun _=>rfl⟩,fun h=>absurd rfl h,fun h=>absurd rfl h,fun h=>by cases h⟩
  ·have hp:=(a1E hi).1 h1;have hb:=hv.both p hp.1
   have hold:p.into≠a0M→p.scrapped=false∧∃q,q∈st∧q.name=p.into∧q.scrapped=false∧a8e c q.kind p.slot p.kind=true:=fun hne=>by
    obtain⟨s1,q,s2,s3,s4,s5⟩:=hv.sits p hp.1 hne;exact⟨s1,q,s2,s3,s4,s5⟩
   have hap:p.into≠a0M→∀z∈st,z.name≠e.part→¬(z.into=p.into∧z.slot=p.slot):=fun hne z hz hzn ⟨e1,e2⟩=>by
    have:=hv.apart p hp.1 z hz hne e1.symm e2.symm;subst this;exact hzn hp.2
   rcases h3 with ⟨o1,q,o2,o3,o4,o5,o6,o7,rfl⟩|⟨_,_,rfl⟩|⟨_,_,rfl⟩|⟨_,rfl⟩|⟨_,_,rfl⟩|⟨_,o2,o3,rfl⟩
   ·obtain⟨k1,k2,k3⟩:=v4 o1;have hq:=(a1E hi).1 o2
    exact⟨⟨fun hh=>absurd hh (a4V k1),fun hh=>absurd hh (a4V k2)⟩,fun _=>⟨h2,q,hq.1,hq.2,o3,o5⟩,fun _ z hz _=>a4E.1 o7 z hz,fun hh=>by
     have:p.scrapped=true:=hh
     rw[h2]at this;cases this⟩
   ·exact⟨⟨fun _=>rfl,fun _=>rfl⟩,fun h=>absurd rfl h,fun h=>absurd rfl h,fun hh=>by
     have:p.scrapped=true:=hh
     rw[h2]at this;cases this⟩
   ·exact⟨hb,hold,hap,fun hh=>by rw[h2]at hh;cases hh⟩
   ·exact⟨hb,hold,hap,fun hh=>by
     have:p.scrapped=true:=hh
     rw[h2]at this;cases this⟩
   ·exact⟨hb,hold,hap,fun hh=>by
     have:p.scrapped=true:=hh
     rw[h2]at this;cases this⟩
   ·exact⟨hb,fun hne=>absurd o2 hne,fun hne=>absurd o2 hne,fun _ z hz=>by rw[←hp.2];exact a4v.1 o3 z hz⟩
 obtain⟨c1,c2,c3,c4⟩:=hpl;have hk:∀q∈st,q.name=e.part→p'.kind=q.kind:=fun q hq hqn=>h.kind ((a1E hi).2 ⟨hq,hqn⟩)
 refine⟨hv.cat,?_,a4j _ hi,fun z hz=>?_,fun z hz=>?_,fun z hz hne=>?_,fun z hz w hw hne e1 e2=>?_⟩
 ·rw[b3H hi,a9Y hi,hn]
  split
  ·exact hv.len
  ·rename_i hnf
   rcases h.how with ⟨_,_,_,h4,_⟩|⟨p,h1,_,_⟩
   ·have:=hv.len;omega
   ·exact absurd (by rw[show st.find? (fun y=>decide (y.name=e.part))=some p from h1];rfl) hnf
 ·rcases (hm z).1 hz with rfl|⟨hz,_⟩
  ·exact b5o.2 h.right
  ·exact hv.right z hz
 ·rcases (hm z).1 hz with rfl|⟨hz,_⟩
  ·exact c1
  ·exact hv.both z hz
 ·rcases (hm z).1 hz with rfl|⟨hz,hzn⟩
  ·obtain⟨d1,q,d2,d3,d4,d5⟩:=c2 hne
   by_cases hq:q.name=e.part
   ·exact⟨d1,z,(hm z).2 (.inl rfl),by rw[hn,←hq,d3],d1,by rw[hk q d2 hq];rw[hk q d2 hq]at d5;exact d5⟩
   ·exact⟨d1,q,(hm q).2 (.inr ⟨d2,hq⟩),d3,d4,d5⟩
  ·obtain⟨d1,q,d2,d3,d4,d5⟩:=hv.sits z hz hne
   by_cases hq:q.name=e.part
   ·have hsc:p'.scrapped=false:=by
     cases hs:p'.scrapped with
     |false=>rfl
     |true=>exact absurd (by rw[←d3,hq]) (c4 hs z hz)
    exact⟨d1,p',(hm p').2 (.inl rfl),by rw[hn,←hq,d3],hsc,by rw[hk q d2 hq];exact d5⟩
   ·exact⟨d1,q,(hm q).2 (.inr ⟨d2,hq⟩),d3,d4,d5⟩
 ·rcases (hm z).1 hz with hz1|⟨hz1,hzn⟩<;>rcases (hm w).1 hw with hw1|⟨hw1,hwn⟩
  ·rw[hz1,hw1]
  ·subst hz1;exact absurd ⟨e1.symm,e2.symm⟩ (c3 hne w hw1 hwn)
  ·subst hw1;exact absurd ⟨e1,e2⟩ (c3 (by rw[←e1];exact hne) z hz1 hzn)
  ·exact hv.apart z hz1 w hw1 hne e1 e2
def a1F (e:Evt):List ByteArray:=if e.op=2 then [e.part,e.into] else [e.part]
theorem Step.swap {c:List Kind} {st:List Part} {x y:Evt} {p1 p2:Part} (hx:Step c st x p1) (hy:Step c (a5a Part.name st p1) y p2) (h3:x.op≠3) (h3':y.op≠3) (hd:∀s∈a1F x,s∉a1F y) :
  Step c st y p2∧Step c (a5a Part.name st p2) x p1:=by
 have hi:=hx.vs.inc;have n1:=hx.name;have n2:=hy.name;have xp:x.part∈a1F x:=by unfold a1F;split<;>simp
 have yp:y.part∈a1F y:=by unfold a1F;split<;>simp
 have hne:x.part≠y.part:=fun e=>hd _ xp (by rw[e];exact yp)
 have vx:=a2C hx.ve;have vy:=a2C hy.ve
 have f1:∀s,s≠x.part→a0e (a5a Part.name st p1) s=a0e st s:=fun s hs=>by
  unfold a0e;rw[b8L hi,n1,if_neg (fun e=>hs e.symm)]
 have f2:∀s,s≠y.part→a0e (a5a Part.name st p2) s=a0e st s:=fun s hs=>by
  unfold a0e;rw[b8L hi,n2,if_neg (fun e=>hs e.symm)]
 have m1:∀z,z∈a5a Part.name st p1↔z=p1∨(z∈st∧z.name≠x.part):=fun z=>by rw[a2X hi,n1]
 have m2:∀z,z∈a5a Part.name st p2↔z=p2∨(z∈st∧z.name≠y.part):=fun z=>by rw[a2X hi,n2]
 -- where the part of x was,and is
 have wx:∀z∈st,z.name=x.part→z.into≠a0M→p1.into=z.into∧p1.slot=z.slot:=fun z hz hzn hzi=>by
  rcases hx.how with ⟨_,h2,_,_,_⟩|⟨p,h1,_,h3x⟩
  ·exact absurd hzn (b0r.1 h2 z hz)
  ·have hp:=(a1E hi).1 h1;have:z=p:=b3b hi hz hp.1 (by rw[hzn,hp.2]);subst this
   rcases h3x with ⟨_,q,_,_,_,_,o6,_,rfl⟩|⟨o1,_,_⟩|⟨_,_,rfl⟩|⟨_,rfl⟩|⟨_,_,rfl⟩|⟨_,_,_,rfl⟩
   ·exact absurd o6 hzi
   ·exact absurd o1 h3
   all_goals exact⟨rfl,rfl⟩
 have hyst:Step c st y p2:=by
  refine⟨hx.vs,hy.ve,?_⟩
  rcases hy.how with ⟨o1,o2,o3,o4,o5⟩|⟨p,h1,h2,h3y⟩
  ·rw[f1 _ (Ne.symm hne)]at o2
   refine .inl ⟨o1,o2,o3,fun hl=>o4 ?_,o5⟩;have:=hx.vs.len;rw[b3H hi,a9Y hi,n1]
   split
   ·exact hl
   ·rename_i hnf
    rcases hx.how with ⟨_,_,_,h4,_⟩|⟨p,h1,_,_⟩
    ·exact absurd hl h4
    ·exact absurd (by rw[show st.find? (fun y=>decide (y.name=x.part))=some p from h1];rfl) hnf
  ·rw[f1 _ (Ne.symm hne)]at h1
   refine .inr ⟨p,h1,h2,?_⟩
   rcases h3y with ⟨o1,q,o2,o3,o4,o5,o6,o7,o8⟩|⟨o1,_,_⟩|h|h|h|⟨o1,o2,o3,o4⟩
   ·have hyi:y.into∈a1F y:=by simp[a1F,o1]
    have hni:y.into≠x.part:=fun e=>hd _ xp (by rw[←e];exact hyi)
    rw[f1 _ hni]at o2
    refine .inl ⟨o1,q,o2,o3,o4,o5,o6,a4E.2 fun z hz ⟨e1,e2⟩=>?_,o8⟩
    by_cases hzn:z.name=x.part
    ·obtain⟨w1,w2⟩:=wx z hz hzn (by rw[e1];exact a4V (vy.2.2.2.1 o1).1);exact a4E.1 o7 p1 ((m1 _).2 (.inl rfl)) ⟨by rw[w1,e1],by rw[w2,e2]⟩
    ·exact a4E.1 o7 z ((m1 _).2 (.inr ⟨hz,hzn⟩)) ⟨e1,e2⟩
   ·exact absurd o1 h3'
   ·exact .inr (.inr (.inl h))
   ·exact .inr (.inr (.inr (.inl h)))
   ·exact .inr (.inr (.inr (.inr (.inl h))))
   ·refine .inr (.inr (.inr (.inr (.inr ⟨o1,o2,a4v.2 fun z hz e1=>?_,o4⟩))));have hp:=(a1E hi).1 h1
    by_cases hzn:z.name=x.part
    ·obtain⟨w1,w2⟩:=wx z hz hzn (by rw[e1,hp.2];exact a4V vy.1);exact a4v.1 o3 p1 ((m1 _).2 (.inl rfl)) (by rw[w1,e1])
    ·exact a4v.1 o3 z ((m1 _).2 (.inr ⟨hz,hzn⟩)) e1
 refine⟨hyst,hyst.valid,hx.ve,?_⟩
 -- where the part of y is
 have wy:∀s,s∈a1F x→s≠a0M→p2.into=s→∃z∈st,z.into=s∧z.slot=p2.slot∧z.name=y.part:=fun s hs hsn he=>by
  rcases hyst.how with ⟨_,h2,_,_,rfl⟩|⟨p,h1,_,h3y⟩
  ·exact absurd he.symm hsn
  ·have hp:=(a1E hi).1 h1
   rcases h3y with ⟨o1,q,_,_,_,_,o6,_,rfl⟩|⟨o1,_,_⟩|⟨_,_,rfl⟩|⟨_,rfl⟩|⟨_,_,rfl⟩|⟨_,_,_,rfl⟩
   ·exact absurd (by rw[←he];simp[a1F,o1]) (hd s hs)
   ·exact absurd o1 h3'
   all_goals exact⟨_,hp.1,he,rfl,hp.2⟩
 rcases hx.how with ⟨o1,o2,o3,o4,o5⟩|⟨p,h1,h2,h3x⟩
 ·refine .inl ⟨o1,by rw[f2 _ hne];exact o2,o3,fun hl=>?_,o5⟩;rw[b3H hi,a9Y hi,n2]at hl
  split at hl
  ·exact o4 hl
  ·rename_i hnf
   rcases hy.how with ⟨_,_,_,h4,_⟩|⟨p,h1,_,_⟩
   ·apply h4
    rw[b3H hi,a9Y hi,n1,if_neg]
    ·exact hl
    ·rw[show st.find? (fun y=>decide (y.name=x.part))=none from o2];simp
   ·rw[f1 _ (Ne.symm hne)]at h1
    exact hnf (by rw[show st.find? (fun z=>decide (z.name=y.part))=some p from h1];rfl)
 ·refine .inr ⟨p,by rw[f2 _ hne];exact h1,h2,?_⟩;have hp:=(a1E hi).1 h1
  rcases h3x with ⟨o1,q,o2,o3,o4,o5,o6,o7,o8⟩|⟨o1,_,_⟩|h|h|h|⟨o1,o2,o3,o4⟩
  ·have hxi:x.into∈a1F x:=by simp[a1F,o1]
   have hni:x.into≠y.part:=fun e=>hd _ hxi (by rw[e];exact yp)
   refine .inl ⟨o1,q,by rw[f2 _ hni];exact o2,o3,o4,o5,o6,a4E.2 fun z hz ⟨e1,e2⟩=>?_,o8⟩
   rcases (m2 z).1 hz with rfl|⟨hz,_⟩
   ·obtain⟨w,hw,w1,w2,_⟩:=wy _ hxi (a4V (vx.2.2.2.1 o1).1) e1;exact a4E.1 o7 w hw ⟨w1,by rw[w2,e2]⟩
   ·exact a4E.1 o7 z hz ⟨e1,e2⟩
  ·exact absurd o1 h3
  ·exact .inr (.inr (.inl h))
  ·exact .inr (.inr (.inr (.inl h)))
  ·exact .inr (.inr (.inr (.inr (.inl h))))
  ·refine .inr (.inr (.inr (.inr (.inr ⟨o1,o2,a4v.2 fun z hz e1=>?_,o4⟩))))
   rcases (m2 z).1 hz with rfl|⟨hz,_⟩
   ·obtain⟨w,hw,w1,_,_⟩:=wy _ xp (a4V vx.1) (by rw[e1,hp.2]);exact a4v.1 o3 w hw (by rw[w1,hp.2])
   ·exact a4v.1 o3 z hz e1
end Go.Sx
set_option linter.all false
namespace Go.Sx
open Go
section
variable {c:List Kind} {st:List Part} {l:List Evt} {e:Evt}
end
theorem b4B {c:List Kind}:∀(L:List Evt) (st:List Part) (i:Int),(b1K c st i L).2.2=0→∀e∈L,a1D e=true
 | [],_,_,_,e,h=>by cases h
 |x::L,st,i,h,e,hm=>by
  simp only[b1K]at h
  split at h
  ·rename_i h0
   rcases List.mem_cons.1 hm with rfl|hm
   ·exact a9U h0
   ·exact b4B L _ _ h e hm
  ·rename_i h0;exact absurd h h0
theorem c9J {c:List Kind} {l:List Evt} {day:Int} {e:Evt} (h:(a3U c l day).2.2=0) (hm:e∈l) (hd:e.day≤day):0≤e.day∧e.day≤40000:=by
 rw[d6W]at h
 have hv:=c4c h;rw[d2i hv]at h
 have hm2:e∈a1N (upD l day):=by rw[a7X,upD,List.mem_filter];simp[hm,hd]
 have:=a2C (b4B _ _ _ h e hm2);exact⟨this.2.1,this.2.2.1⟩
section
variable {c:List Kind} {l m:List Evt} {p k:ByteArray} {a b day:Int} {d:Dut} {ds:List Dut}
theorem d1d (h:b6q c l p day=some k):(a3U c l day).2.2=0∧(a0e (a3U c l day).1 p).map Part.kind=some k:=by
 unfold b6q at h
 split at h
 ·rename_i hc
  refine⟨hc.1,?_⟩;obtain⟨q,hq⟩:=Option.isSome_iff_exists.1 hc.2.1;rw[hq]at h ⊢
  exact h
 ·cases h
end
end Go.Sx
set_option linter.all false
namespace Go.Sx
open Go
def Due.eqB (a b:Due):Bool:=decide (a.part=b.part)&&(decide (a.rule=b.rule)&&(decide (a.day=b.day)&&true))
theorem Due.eqB_eq (a b:Due):Due.eqB a b=decide (a=b):=by
 cases a;cases b;simp[Due.eqB]
def b1V (x:Due):Value:=.agg x.cells.toArray
structure Fn1 where
 k:FuncId
 cs:List Value
def Fn1.val (f:Fn1):Value:=.func (.func f.k) #[] f.cs.toArray
instance:Enc Fn1 where
 k:=1
 rd _ vs x:=vs=[x.val]
 len h:=by rw[h];rfl
 mono _ h:=h
 one h:=by rw[h];rfl
def LeastIs (l:List Int) (m:Int) (fd:Bool):Prop:=a4a l=(if fd=true then some m else none)∧(fd=false→m=0)
theorem LeastIs.nil:LeastIs [] 0 false:=⟨rfl,fun _=>rfl⟩
theorem b0F (l:List Int) (x:Int):a4a (l++[x])=some (match a4a l with|none=>x|some m=>min m x):=by
 cases l with
 |nil=>rfl
 |cons y l=>simp[a4a,List.foldl_append]
section
variable {l:List Int} {m x:Int} {fd:Bool}
theorem LeastIs.less (h:LeastIs l m fd) (hc:fd=false∨x<m):LeastIs (l++[x]) x true:=by
 refine⟨?_,fun h=>by cases h⟩;rw[b0F,h.1]
 cases fd with
 |false=>rfl
 |true=>
  rcases hc with hc|hc
  ·cases hc
  ·show some (min m x)=some x
   rw[Int.min_eq_right oM]
theorem LeastIs.more (h:LeastIs l m true) (hc:¬x<m):LeastIs (l++[x]) m true:=by
 refine⟨?_,fun h=>by cases h⟩;rw[b0F,h.1]
 show some (min m x)=some m
 rw[Int.min_eq_left oM]
theorem LeastIs.more2 (h:LeastIs l m fd) (hf:fd=true) (hc:¬x<m):LeastIs (l++[x]) m fd:=by subst hf;exact h.more hc
theorem LeastIs.val (h:LeastIs l m fd):m=(a4a l).getD 0∧fd=(a4a l).isSome:=by
 cases fd with
 |false=>rw[h.1];exact⟨h.2 rfl,rfl⟩
 |true=>rw[h.1];exact⟨rfl,rfl⟩
end
theorem a7D {κ:Type} [DecidableEq κ] {k x:κ} {v:Value}:∀{kvs:List (κ×Value)},x∈(a4I kvs k v).map Prod.fst↔x=k∨x∈kvs.map Prod.fst
 | []=>by simp[a4I]
 |(k',u)::r=>by
  simp only[a4I]
  split
  ·rename_i h;subst h;simp
  ·simp only[List.map_cons,List.mem_cons,a7D (kvs:=r)]
   constructor
   ·rintro (h|h|h)
    ·exact .inr (.inl h)
    ·exact .inl h
    ·exact .inr (.inr h)
   ·rintro (h|h|h)
    ·exact .inr (.inl h)
    ·exact .inl h
    ·exact .inr (.inr h)
theorem b0I {κ:Type} [DecidableEq κ] {k:κ} {v:Value}:∀{kvs:List (κ×Value)},(kvs.map Prod.fst).Nodup→((a4I kvs k v).map Prod.fst).Nodup
 | [],_=>by simp[a4I]
 |(k',u)::r,h=>by
  obtain⟨h1,h2⟩:=List.nodup_cons.1 h
  simp only[a4I]
  split
  ·exact h
  ·rename_i hne
   refine List.nodup_cons.2 ⟨fun hm=>?_,b0I h2⟩
   rcases a7D.1 hm with e|hm
   ·exact hne e
   ·exact h1 hm
def KeysD (kvs:List (Due×Value)) (L:List Due):Prop:=(kvs.map Prod.fst).Nodup∧∀x,x∈kvs.map Prod.fst↔x∈L
theorem KeysD.nil:KeysD [] []:=⟨List.nodup_nil,fun x=>Iff.rfl⟩
section
variable {kvs:List (Due×Value)} {F:Dut→Option Due} {ds:List Dut} {i:Nat}
theorem KeysD.none (h:KeysD kvs ((ds.take i).filterMap F)) (hi:i<ds.length) (h0:F ds[i] = .none):KeysD kvs ((ds.take (i+1)).filterMap F):=by
 rw[←a0c hi,List.filterMap_append]
 simpa[h0]using h
theorem KeysD.some {x:Due} {v:Value} (h:KeysD kvs ((ds.take i).filterMap F)) (hi:i<ds.length) (h0:F ds[i] = .some x):KeysD (a4I kvs x v) ((ds.take (i+1)).filterMap F):=by
 rw[←a0c hi,List.filterMap_append];refine⟨b0I h.1,fun z=>?_⟩;rw[a7D,h.2,List.mem_append]
 simp[h0,or_comm]
end
def SmD (d:Dut):Prop:=d.name.size≤maxLen∧d.kind.size≤maxLen∧d.key.size≤maxLen
section
variable {c:List Kind} {l:List Evt} {p:ByteArray} {day:Int} {ds:List Dut} {d:Dut} {k:ByteArray}
theorem d1c (h:((!decide ((a3U c l day).2.2=0) || !(a0e (a3U c l day).1 p).isSome)||((a0e (a3U c l day).1 p).getD zPart).scrapped)=true):b1J ds c l p day=[]:=by
 have:b6q c l p day=none:=by
  unfold b6q;rw[if_neg];rintro⟨h1,h2,h3⟩;rw[h1,h2,h3]at h;simp at h
 unfold b1J;rw[this]
theorem c6I (h:((!decide ((a3U c l day).2.2=0) || !(a0e (a3U c l day).1 p).isSome)||((a0e (a3U c l day).1 p).getD zPart).scrapped)=false):b6q c l p day=some ((a0e (a3U c l day).1 p).getD zPart).kind:=by
 simp only[Bool.or_eq_false_iff,Bool.not_eq_false',decide_eq_true_eq]at h
 exact if_pos ⟨h.1.1,h.1.2,h.2⟩
theorem c0r (h:b6q c l p day=some k):b1J ds c l p day=ds.filterMap (b2U k l p day):=by unfold b1J;rw[h]
theorem c1T (h:a3u d=false):b2U k l p day d=none:=if_neg fun h2=>by rw[h]at h2;cases h2.1
theorem b9G (h:¬d.kind=k):b2U k l p day d=none:=if_neg fun h2=>h h2.2
theorem c5N (h:(a4a (a8G d l p day)).isSome=false):b2U k l p day d=none:=by
 unfold b2U
 split
 ·cases hl:a4a (a8G d l p day) with
  |none=>rfl
  |some n=>rw[hl]at h;cases h
 ·rfl
theorem c1U (hv:a3u d=true) (hk:d.kind=k) (h:(a4a (a8G d l p day)).isSome=true):b2U k l p day d=some ⟨p,d.name,(a4a (a8G d l p day)).getD 0⟩:=by
 unfold b2U;rw[if_pos ⟨hv,hk⟩]
 cases hl:a4a (a8G d l p day) with
 |none=>rw[hl]at h;cases h
 |some n=>rfl
theorem b5G (h:a3u d=true):0≤d.within∧d.within≤40000:=by
 simp only[a3u,Bool.and_eq_true,decide_eq_true_eq]at h;omega
end
section
variable {d:Dut} {l:List Evt} {p:ByteArray} {day:Int}
def a7M (d:Dut) (l:List Evt) (p:ByteArray) (day:Int) (i:Nat):List Int:=(((a9Z d l p day).take i).filter fun b=>!c9d d (b6w d l p day) b).map fun b=>b+d.within
theorem c0s:a7M d l p day (a9Z d l p day).length=a8G d l p day:=by unfold a7M a8G;rw[List.take_length]
theorem c0t {i:Nat} (hi:i<(a9Z d l p day).length) (h:c9d d (b6w d l p day) (a9Z d l p day)[i]=true):a7M d l p day (i+1)=a7M d l p day i:=by
 unfold a7M;rw[←a0c hi,List.filter_append];simp[h]
theorem a8H {i:Nat} (hi:i<(a9Z d l p day).length) (h:c9d d (b6w d l p day) (a9Z d l p day)[i]=false):a7M d l p day (i+1)=a7M d l p day i++[(a9Z d l p day)[i]+d.within]:=by
 unfold a7M;rw[←a0c hi,List.filter_append];simp[h]
theorem c9M {i:Nat} (hi:i<(a9Z d l p day).length):∃e∈l,e.part=p∧e.day≤day∧e.day=(a9Z d l p day)[i]:=by
 have h:=List.getElem_mem hi;unfold a9Z at h
 obtain⟨e,he,h2⟩:=List.mem_map.1 h;obtain⟨h3,h4⟩:=List.mem_filter.1 he
 simp only[d1B,Bool.and_eq_true,decide_eq_true_eq]at h4
 exact⟨e,h3,h4.1.1,h4.1.2,h2⟩
def b5V (d:Dut) (p:ByteArray) (day:Int) (k1 k2:FuncId) (f:Fn1) (x:Evt):Bool:=if f.k=k1 then d1B p day x else if f.k=k2 then decide (x.op=6)&&decide (x.key=d.key) else decide (x.op=d.after)
def a6E (fs:List Fn1) (q:Fn1→Evt→Bool) (l:List Evt):List Int:=(l.filter fun x=>fs.all fun f=>q f x).map Evt.day
theorem a9q {fs:List Fn1} {q:Fn1→Evt→Bool} {x:Evt}:(!(fs.any fun f=>!q f x))=fs.all fun f=>q f x:=by
 induction fs with
 |nil=>rfl
 |cons f fs ih=>simp only[List.any_cons,List.all_cons,Bool.not_or,Bool.not_not,ih]
theorem b4s {fs:List Fn1} {q:Fn1→Evt→Bool} {i:Nat} (hi:i<l.length) (h:(fs.all fun f=>q f l[i])=true):a6E fs q (l.take (i+1))=a6E fs q (l.take i)++[l[i].day]:=by
 unfold a6E;rw[←a0c hi,List.filter_append];simp only[List.filter_cons,h,if_true,List.filter_nil,List.map_append,List.map_cons,List.map_nil]
theorem b7J {fs:List Fn1} {q:Fn1→Evt→Bool} {i:Nat} (hi:i<l.length) (h:(fs.all fun f=>q f l[i])=false):a6E fs q (l.take (i+1))=a6E fs q (l.take i):=by
 unfold a6E;rw[←a0c hi,List.filter_append];simp only[List.filter_cons,h,Bool.false_eq_true,if_false,List.filter_nil,List.append_nil]
theorem c1J {fs:List Fn1} {q:Fn1→Evt→Bool}:(a6E fs q l).length≤l.length:=by unfold a6E;rw[List.length_map];exact List.length_filter_le _ _
theorem c1K {k1 k2:FuncId} {c1 c2:List Value} (h:k2≠k1):a6E [⟨k1,c1⟩,⟨k2,c2⟩] (b5V d p day k1 k2) l=b6w d l p day:=by
 unfold a6E b6w
 congr 2
 funext x
 simp[b5V,h]
theorem c1I {k1 k2 k3:FuncId} {c1 c2:List Value} (h:k3≠k1) (h2:k3≠k2):a6E [⟨k1,c1⟩,⟨k3,c2⟩] (b5V d p day k1 k2) l=a9Z d l p day:=by
 unfold a6E a9Z
 congr 2
 funext x
 simp[b5V,h,h2]
end
end Go.Sx
set_option linter.all false
namespace Go.Sx
open Go
section
variable {P:Program} {n:Sz} {E:Ent} {I:IMap} {L:LL} {H:List Res} {K:Act→World→Prop}
variable {α:Type} [Enc α]
theorem d2G {v:Value} {e k m:Nat} {xs:List Value} {l:List α} (hF:Flat I xs l) (hk:k=Enc.k α) (hm:m=l.length) (h0:0<l.length)
  (h:∀g cap rest xss,v = .slice (some ⟨g,0,none⟩) m cap→FlatC I xss l→Uk k rest→m+rest.length=cap→cap≤maxLen→SX n E I L (.blk g e (xss++rest).flatten::H) K):SX n E I L (.row v e k m xs::H) K:=by
 obtain⟨xss,rfl,hC⟩:=FlatC.of hF;refine a6O (xss:=xss) (m:=m) (by rw[hk];exact hC.uk) (by rw[hC.len,hm]) (fun h1 _=>absurd h1 oM) (fun g cap rest hv hR hc hl=>h g cap rest xss hv hC hR hc hl)
theorem b5x {g e k m cap i:Nat} {xss rest:List (List Value)} {c:List Value} {l:List α} (x:α) (hC:FlatC I xss l) (hR:Uk k rest) (hk:k=Enc.k α) (hm:m=l.length) (hi:i<l.length) (hc:m+rest.length=cap) (hl:cap≤maxLen) (hx:Enc.rd I c x)
  (h:∀ws,Flat I ws (l.set i x)→SX n E I L (.row (.slice (some ⟨g,0,none⟩) m cap) e k m ws::H) K):SX n E I L (.blk g e ((xss++rest).set i c).flatten::H) K:=by
 have hlen:i<xss.length:=by rw[hC.len];exact hi
 rw[List.set_append_left _ _ hlen];have hC':=hC.set hx i;refine a2e (by rw[hk];exact hC'.uk) hR (by rw[hC'.len,List.length_set,hm]) hc hl (h _ hC'.flat)
theorem a1c {v:Value} {e k m:Nat} {xs:List Value} (h:∀A c,v = .slice A m c→SX n E I L (.row v e k m xs::H) K):SX n E I L (.row v e k m xs::H) K:=by
 refine c4v (p:=∃h,IsRow h v e k m xs) (fun w mm=>⟨_,mm.holds _ (List.mem_cons_self ..)⟩) fun ⟨_,_,hr⟩=>?_
 rcases hr with ⟨rfl,rfl⟩|⟨g,cap,cur,rfl,_⟩
 ·exact h _ _ rfl
 ·exact h _ _ rfl
end
section
variable {α:Type} [Enc α] {I:IMap} {A:Option Addr} {m c:Nat} {l:List α}
theorem RdS.toA (h:RdS I (.slice A m c) l):RdA I A l:=by
 obtain⟨_,_,e,h,_⟩:=h
 injection e with e1 e2 e3
 subst e1;exact h
end
section
variable {P:Program} {b:Frame} {a:Act} {k:List Item} {cs:List Frame} {w:World} {Q:Exit→Act→World→Prop} {F:Fence}
theorem a3L {c:Code}:step P (lone (b.atR a (.code (.scope c)::k)) cs w) = .next (lone (b.atR a (.code c :: .inScope c::k)) cs w):=
 step_lone_go (by simp[stepG,stepG.exec,Frame.atR])
theorem b3L {c:Code}:step P (lone (b.atR a (.inScope c::k)) cs w) = .next (lone (b.atR a k) cs w):=
 step_lone_go (by simp[stepG,stepG.exec,Frame.atR])
theorem c0V {n:Nat} {c:Code} (h:c.wpIn F n P (Exit.noGoto Q) a w):(Code.scope c).wpIn F n P Q a w:=by
 intro b k cs hro hb hr;have h0:(lone (b.atR a (.code (.scope c)::k)) cs w).fenced P F:=fenced_calm hb hr rfl;obtain⟨e,a₁,w₁,hq,harr⟩:=h b (.inScope c::k) cs hro hb hr
 cases e with
 |normal=>exact⟨.normal,a₁,w₁,hq,.head h0 a3L (StepsIn.trans harr (.one (fenced_calm hb hr rfl) b3L))⟩
 |exit id=>
  have hx:exitTo id (.inScope c::k)=exitTo id k:=by simp[exitTo]
  exact⟨.exit id,a₁,w₁,hq,fun k' hk=>.head h0 a3L (harr.1 k' (by rw[hx];exact hk)),
   fun hr' hk=>let ⟨k₁,h1,h2⟩:=harr.2 hr' (by rw[hx];exact hk);⟨k₁,h1,.head h0 a3L h2⟩⟩
 |goto l=>exact hq.elim
 |ret=>exact⟨_,a₁,w₁,hq,.of_steps (.one h0 a3L) harr⟩
 |panic ch=>exact⟨_,a₁,w₁,hq,.of_steps (.one h0 a3L) harr⟩
 |outgrown=>exact⟨_,a₁,w₁,hq,.of_steps (.one h0 a3L) harr⟩
end
section
variable {P:Program} {ρ:Option Nat} {n:Sz} {E:Ent} {I:IMap} {L:LL} {H:List Res} {Q:Exit→Act→World→Prop}
theorem c1u {c:Code} (h:SX n E I L H (c.wq ρ P (Exit.noGoto Q))):SX n E I L H ((Code.scope c).wq ρ P Q):=fun a w s m=>c0V (h a w s m)
theorem c1s {l:Nat} (h:SX n E I L H (Q .normal)):SX n E I L H ((Code.label l).wq ρ P Q):=fun a w s m=>wpIn_label (h a w s m)
theorem a4O (h:SX n E I L H (Q .ret)):SX n E I L H (Exit.noGoto Q .ret):=h
end
end Go.Sx
set_option linter.all false
namespace Go.Sx
open Go
section
variable {α β:Type} [Day α] [Day β]
theorem b9S {e:α} {l:List α} (h:∀x∈l,Day.day e≤Day.day x):b2b e l=e::l:=by
 cases l with
 |nil=>rfl
 |cons x r=>simp only[b2b];rw[if_pos (h x (by simp))]
theorem b4F (p:α→Bool) (e:α):∀{l:List α},b9r l→(b2b e l).filter p=if p e=true then b2b e (l.filter p) else l.filter p
 | [],_=>by by_cases h:p e=true<;>simp[b2b,h]
 |x::r,hs=>by
  have hs':=List.pairwise_cons.1 hs
  simp only[b2b]
  by_cases hd:Day.day e≤Day.day x
  ·rw[if_pos hd,List.filter_cons]
   by_cases h:p e=true
   ·rw[if_pos h,if_pos h,b9S];intro y hy
    rcases List.mem_cons.1 (List.mem_filter.1 hy).1 with rfl|hy
    ·exact hd
    ·exact Int.le_trans hd (hs'.1 y hy)
   ·rw[if_neg h,if_neg h]
  ·rw[if_neg hd,List.filter_cons,b4F p e hs'.2,List.filter_cons]
   by_cases h:p e=true
   ·rw[if_pos h,if_pos h]
    by_cases hx:p x=true
    ·rw[if_pos hx,if_pos hx];simp only[b2b];rw[if_neg hd]
    ·rw[if_neg hx,if_neg hx]
   ·rw[if_neg h,if_neg h]
theorem b2w (p:α→Bool):∀l:List α,(a1N l).filter p=a1N (l.filter p)
 | []=>rfl
 |x::r=>by
  show (b2b x (a1N r)).filter p=_
  rw[b4F p x (a7Y r),b2w p r,List.filter_cons]
  split<;>rfl
end
def b1g (c:List Kind):List Part→List Evt→Option (List Part)
 |st,[]=>some st
 |st,e::r=>if (a0j c st e).2=0 then b1g c (a0j c st e).1 r else none
theorem b4A (c:List Kind):∀(l:List Pkd) (st:List Part),decide ((a2P c st l).2=0)=(b1g c st (l.map Pkd.e)).isSome
 | [],_=>rfl
 |p::r,st=>by
  simp only[List.map_cons,b1g,a2P]
  split
  ·exact b4A c r _
  ·rename_i h;simp[h]
theorem b2a (c:List Kind):∀(a b:List Pkd) (st:List Part),a2P c st (a++b)=match b1g c st (a.map Pkd.e) with|some s=>a2P c s b|none=>a2P c st a
 | [],_,_=>rfl
 |p::r,b,st=>by
  simp only[List.cons_append,List.map_cons,b1g,a2P]
  split
  ·rw[b2a c r b]
  ·rfl
end Go.Sx
set_option linter.all false
namespace Go.Sx
open Go
structure Rst (k:Nat) where
 l:List (List Value)
 uk:Uk k l
theorem a0p (l:List Pkd):Uk 15 (a1u l):=c2e l
theorem b9H {I:IMap} (l:List Pkd):FlatC I (a1u l) l:=by
 induction l with
 |nil=>exact .nil
 |cons e l ih=>exact .cons rfl ih
theorem a0G {l:List Pkd} {rest:List (List Value)} {i:Nat} (h:i<l.length):(a1u l++rest)[i]? = some (Day.ch l[i]):=by
 rw[List.getElem?_append_left (by rw[a0t];exact h)];exact a1s h
section
variable {α:Type} [Day α]
theorem a7p (l:List α) (rest:List (List Value)) (i:Nat) (h:i<l.length) (e:α):(a1u l++rest).set i (Day.ch e)=a1u (l.set i e)++rest:=by
 rw[List.set_append_left _ _ (by rw[a0t];exact h),a6p]
theorem a3Y {l:List α} {rest:List (List Value)} {i j:Nat} (hi:i<l.length) (hj:j<l.length):((a1u l++rest).set i (Day.ch l[j])).set j (Day.ch l[i])=a1u (swp l i j)++rest:=by
 rw[a7p _ _ _ hi,a7p _ _ _ (by rw[List.length_set];exact hj),b2z hi hj]
theorem a3c {l:List α} {rest:List (List Value)} {i j:Nat} (hi:i<l.length) (hj:j<l.length) (hij:i≠j):((a1u l++rest).set j (Day.ch l[i])).set i (Day.ch l[j])=a1u (swp l i j)++rest:=by
 rw[a7p _ _ _ hj,a7p _ _ _ (by rw[List.length_set];exact hi),b2z hi hj,List.set_comm _ _ hij.symm]
end
theorem c5S {I:IMap} {xss:List (List Value)} {l:List Pkd} (h:FlatC I xss l):xss=a1u l:=by
 induction h with
 |nil=>rfl
 |cons h1 _ ih=>rw[ih];simp only[a1u,List.map_cons];rw[show _=_ from h1];rfl
theorem a8d {a b:Int}:a-b<0↔a<b:=oM
theorem b5X {l:List Pkd} {i j:Nat} {hi:i<l.length} {hj:j<l.length} (h:Day.day l[i]-Day.day l[j]<0):a0s l i<a0s l j:=by
 rw[a8d]at h;rw[a1e hi,a1e hj];exact h
theorem b5W {l:List Pkd} {i j:Nat} {hi:i<l.length} {hj:j<l.length} (h:¬Day.day l[i]-Day.day l[j]<0):a0s l j≤a0s l i:=by
 rw[a8d]at h;rw[a1e hi,a1e hj];omega
section
variable {P:Program} {ρ:Option Nat} {n:Sz} {E:Ent} {I I':IMap} {L:LL} {H:List Res} {Q:Exit→Act→World→Prop} {ops:Array Oper} {K:Act→World→Prop} {w0:World}
variable {d ty:Nat} {pos:String} {af:Array Edge} {fo:Operand} {as_:List Operand} {ats:Array TypeId} {f:FuncId} {args:List Value} {r r':Res} {X:List Nat}
def FnG (P:Program) (f:FuncId) (args:Array Value) (I:IMap) (r:Res) (p:Value→IMap→Res→Prop):Prop:=FnH P f args I [r] fun u I' H'=>∃r',H'=[r']∧p u I' r'
theorem a1m {p:Value→IMap→Res→Prop} (hc:FnG P f args.toArray I r p) (h:a1w L fo as_=some (f,args)) (hd:Nat.blt d n.sz=true) (k:∀v I' r',ILe I I'→p v I' r'→SX n E I' ((d,v)::L) (r'::H) K) :
  SX n E I L (r::H) (one P ops Q ⟨some d,.call { callee:=.value fo,args:=as_.toArray,argTypes:=ats },ty,pos,af,none⟩ K):=
 a2H (Hc:=[r]) (H0:=H) hc h hd fun u I' H' hI hp=>by obtain⟨r',rfl,h1⟩:=hp;exact k u I' r' hI h1
theorem q_g {v:Value} {p:Value→IMap→Res→Prop} (h:p v I r):SX n E I L [r] fun _ w=>a9p E (fun u' I' H'=>∃r',H'=[r']∧p u' I' r') (.returned v) w:=a2g (fun _ m=>m) ⟨r,rfl,h⟩
theorem FnX.of_V {args:Array Value} {v:Value} {t k:Nat} (h:FnV P f args I v):FnX P f args I [] (fun u r=>u=v∧r = .row (.slice none 0 0) t k 0 []):=
 ⟨fun w m=>(h.go w m).mono fun _ _ ⟨u,I',H',he,hm,hq⟩=>by
  obtain⟨rfl,rfl,rfl⟩:=hq
  exact⟨_,_,_,he,hm.nilrow t k,rfl,_,rfl,rfl,rfl⟩⟩
theorem FnX.back {args:Array Value} {g e k m cap:Nat} {xss yss rest:List (List Value)} {p:Value→Res→Prop} (hU:Uk k yss) (hR:Uk k rest) (hm:yss.length=m) (hc:m+rest.length=cap) (hl:cap≤maxLen)
  (h:FnX P f args I [.blk g e (xss++rest).flatten] (fun u r=>p u (.row (.slice (some ⟨g,0,none⟩) m cap) e k m yss.flatten)∧r = .blk g e (yss++rest).flatten)):FnX P f args I [.blk g e (xss++rest).flatten] p:=
 ⟨fun w m'=>(h.go w m').mono fun _ w' ⟨u,I',H',he,hm',hq⟩=>by
  obtain⟨rfl,r',rfl,hp,rfl⟩:=hq;refine⟨_,_,_,he,?_,rfl,_,rfl,hp⟩;have hb:w'.heap[g]? = some (.cells (yss++rest).flatten.toArray e (0,0)):=hm'.blk
  exact hm'.step rfl ⟨rfl,Nat.le_refl _⟩ rfl (Nat.le_refl _) (fun _ _ _=>rfl) (IsRow.shut hb hU hR hm hc hl) (fun g' hg'=>.inl hg')⟩
theorem FnX.of_rowV {args:Value→List Value} {p:Value→Res→Prop} {v:Value} {e k m:Nat} {xss:List (List Value)} (hU:Uk k xss) (hm:xss.length=m)
  (h0:m=0→v = .slice none 0 0→FnX P f (args (.slice none 0 0)).toArray I [] p)
  (h1:∀g cap rest,v = .slice (some ⟨g,0,none⟩) m cap→Uk k rest→m+rest.length=cap→cap≤maxLen→FnX P f (args (.slice (some ⟨g,0,none⟩) m cap)).toArray I [.blk g e (xss++rest).flatten] p):FnX P f (args v).toArray I [.row v e k m xss.flatten] p:=by
 refine⟨fun w mm=>?_⟩;have hr:IsRow (b4L w) v e k m xss.flatten:=mm.holds (.row v e k m xss.flatten) (List.mem_cons_self ..)
 rcases hr.open_ hU hm with ⟨h2,h3⟩|⟨g,cap,rest,h2,h3,h4,h5,h6⟩
 ·subst h3;exact (h0 h2 rfl).go w mm.drop
 ·subst h2;exact (h1 g cap rest rfl h3 h4 h5).go w (mm.step rfl ⟨rfl,Nat.le_refl _⟩ rfl (Nat.le_refl _) (fun _ _ _=>rfl) h6 (fun g' hg'=>.inl hg'))
end
theorem c7i (day:Int) (l:List Rep) (ch:List Int) (i:Nat):(a3j day l ch i).length≤i:=by
 unfold a3j;exact Nat.le_trans (List.length_filterMap_le _ _) (by simp)
section
variable {day:Int} {l:List Rep} {ch:List Int} {i:Nat} {out:List Pkd}
theorem d1I (h1:i<l.length) (h2:i<ch.length) (hw:a3j day l ch i=out) (h:a5A day l[i] ch[i]=none):a3j day l ch (i+1)=out:=by
 rw[a7O,hw,pkd,a3l h1 h2,h];simp
theorem d4Q (h1:i<l.length) (h2:i<ch.length) (hw:a3j day l ch i=out) (h:¬0≤ch[i]):a3j day l ch (i+1)=out:=d1I h1 h2 hw (if_neg h)
theorem d4P (h1:i<l.length) (h2:i<ch.length) (hw:a3j day l ch i=out) (h:¬ch[i]<(l[i].options.length:Nat)):a3j day l ch (i+1)=out:=d1I h1 h2 hw (by
 unfold a5A
 split
 ·rw[List.getElem?_eq_none oM]
 ·rfl)
theorem d1H (h1:i<l.length) (h2:i<ch.length) (hw:a3j day l ch i=out) (hk:ch[i].toNat<l[i].options.length) (h:¬l[i].options[ch[i].toNat].day<day):a3j day l ch (i+1)=out:=d1I h1 h2 hw (by
 unfold a5A
 split
 ·simp only[List.getElem?_eq_getElem hk];rw[if_neg h]
 ·rfl)
theorem d4R (h1:i<l.length) (h2:i<ch.length) (hw:a3j day l ch i=out) (h0:0≤ch[i]) (hk:ch[i].toNat<l[i].options.length) (h:l[i].options[ch[i].toNat].day<day) (hv:0≤l[i].options[ch[i].toNat].day∧l[i].options[ch[i].toNat].day≤40000) :
  a3j day l ch (i+1)=out++[⟨l[i].options[ch[i].toNat],i,hv.1,hv.2⟩]:=by
 have ho:a5A day l[i] ch[i]=some l[i].options[ch[i].toNat]:=by
  unfold a5A;rw[if_pos h0]
  simp only[List.getElem?_eq_getElem hk];rw[if_pos h]
 rw[a7O,hw,pkd,a3l h1 h2,ho]
 simp[hv]
end
theorem b0w {c:List Kind} {st:List Part} {l:List Pkd} {i:Nat} (hi:i<l.length):a2P c st (l.drop i)=if (a0j c st l[i].e).2=0 then a2P c (a0j c st l[i].e).1 (l.drop (i+1)) else (l[i].rep,(a0j c st l[i].e).2):=by
 rw[List.drop_eq_getElem_cons hi];rfl
theorem b4Y (l:List Rep) (ch:List Int) (i:Nat):a1l l ch (i+1)=a1l l ch i++((at2 (fun r k=>if k<0 then r.options.map Evt.day else []) l ch i).getD []):=by
 rw[a1l,List.range_succ,List.flatMap_append,a1l];simp
def a5j (l:List Rep) (ch:List Int) (i j:Nat):List Int:=a1l l ch i++((at2 (fun r k=>if k<0 then (r.options.take j).map Evt.day else []) l ch i).getD [])
theorem b6G {l:List Rep} {ch:List Int} {i:Nat}:a5j l ch i 0=a1l l ch i:=by
 unfold a5j at2
 split
 ·simp
 ·simp
theorem b6F {l:List Rep} {ch:List Int} {i j:Nat} (h1:i<l.length) (h2:i<ch.length) (h:¬ch[i]<0) (j':Nat):a5j l ch i j=a5j l ch i j':=by
 unfold a5j;rw[a3l h1 h2,a3l h1 h2];simp[h]
theorem b0Q {l:List Rep} {ch:List Int} {i j:Nat} (h1:i<l.length) (h2:i<ch.length) (h:ch[i]<0) (hj:j<l[i].options.length):a5j l ch i (j+1)=a5j l ch i j++[l[i].options[j].day]:=by
 unfold a5j;rw[a3l h1 h2,a3l h1 h2];simp only[if_pos h,Option.getD_some];rw[←a0c hj,List.map_append,List.append_assoc];rfl
theorem b2o {l:List Rep} {ch:List Int} {i:Nat} (h1:i<l.length) (h2:i<ch.length):a5j l ch i l[i].options.length=a1l l ch (i+1):=by
 rw[b4Y,a5j,a3l h1 h2,a3l h1 h2];simp[List.take_length]
theorem c6W {l:List Rep} {ch:List Int} {n i:Nat} (h:i≤n):a1l l ch i <+: a1l l ch n:=by
  induction n with
  | zero => obtain rfl : i = 0 := oM
            exact List.prefix_rfl
  |succ n ih=>
    rcases Nat.lt_or_ge n i with hi|hi
    · obtain rfl:i=n+1:=oM
      exact List.prefix_rfl
    · exact (ih hi).trans (by rw[b4Y];exact List.prefix_append _ _)
theorem c0k {l:List Rep} {ch:List Int} {i j:Nat} (h1:i<l.length) (h2:i<ch.length) (h:ch[i]<0) (hj:j<l[i].options.length):a5j l ch i j++[l[i].options[j].day] <+: a1l l ch l.length:=by
 rw[←b0Q h1 h2 h hj];refine List.IsPrefix.trans ?_ (c6W (i:=i+1) oM);rw[←b2o h1 h2];unfold a5j;rw[a3l h1 h2,a3l h1 h2]
 simp only[if_pos h,Option.getD_some]
 refine (List.prefix_append_right_inj _).2 ?_;rw[List.take_length,List.map_take];exact List.take_prefix _ _
theorem a3g {r:Rep} (h:a0g r=true):1≤r.options.length∧r.options.length≤4:=by
 simp only[a0g,Bool.and_eq_true,Bool.not_eq_true',Bool.or_eq_false_iff,decide_eq_false_iff_not]at h
 omega
theorem c7j {day:Int} {l:List Rep} {ch:List Int} {n:Nat} {p:Pkd} (h:p∈a3j day l ch n):∃r∈l,p.e∈r.options:=by
 rw[a3j,List.mem_filterMap]at h
 obtain⟨i,_,hi⟩:=h;unfold pkd at2 at hi
 split at hi
 ·rename_i e he
  split at hi
  ·cases hi
   split at he
   ·rename_i r k h1 h2
    refine⟨r,List.mem_of_getElem? h1,?_⟩
    simp only[Option.join_some,a5A]at he
    split at he
    ·split at he
     ·rename_i e' h3
      split at he
      ·cases he;exact List.mem_of_getElem? h3
      ·cases he
     ·cases he
    ·cases he
   ·simp at he
  ·cases hi
 ·cases hi
theorem a3o {c:List Kind} {l:List Rep} {ch:List Int} {n:Int} (h:a1L c l ch n=true):ch.length=l.length∧∀r∈l,a0g r=true:=by
 simp only[a1L,Bool.and_eq_true,Bool.not_eq_true',Bool.or_eq_false_iff,Bool.not_eq_false',decide_eq_true_eq]at h
 have hlc:ch.length=l.length:=oM;refine⟨hlc,fun r hr=>?_⟩;obtain⟨i,hi,rfl⟩:=List.getElem_of_mem hr;have:=b7u h.2 hi hi oM
 simp only[a8W,Bool.not_eq_true',Bool.or_eq_false_iff,decide_eq_false_iff_not]at this
 cases hv:a0g l[i]with
 |true=>rfl
 |false=>exact absurd (by simp[chs,hv]) this.1.1
theorem c0b (l:List Int) (d:Int):a5I (l++[d])=if d<a5I l then d else a5I l:=by
 rw[a5I,List.foldl_append];rfl
def d6D (e:Evt):Value:=.agg e.cells.toArray
end Go.Sx
set_option linter.all false
namespace Go.Sx
open Go
def a1x (l:List ByteArray):List (List Value):=l.map fun s=>[.string s]
theorem a1Z (l:List ByteArray):Uk 1 (a1x l):=fun c hc=>by obtain⟨e,_,rfl⟩:=List.mem_map.1 hc;rfl
theorem a2t (l:List ByteArray):(a1x l).length=l.length:=by simp[a1x]
theorem a2T (I:IMap):∀l:List ByteArray,FlatC I (a1x l) l
 | []=>.nil
 |s::r=>.cons rfl (a2T I r)
theorem b8Z {I:IMap} {xss:List (List Value)} {l:List ByteArray} (h:FlatC I xss l):xss=a1x l:=by
 induction h with
 |nil=>rfl
 |cons h1 _ ih=>rw[ih];simp only[a1x,List.map_cons];rw[show _=_ from h1]
theorem a5K {l:List ByteArray} {rest:List (List Value)} {i:Nat} (h:i<l.length):(a1x l++rest)[i]? = some [.string l[i]]:=by
 rw[List.getElem?_append_left (by rw[a2t];exact h)];simp[a1x,h]
theorem a8O {l:List ByteArray} {rest:List (List Value)} {i:Nat} (h:i<l.length) (s:ByteArray):(a1x l++rest).set i [.string s]=a1x (l.set i s)++rest:=by
 rw[List.set_append_left _ _ (by rw[a2t];exact h)]
 congr 1
 simp[a1x,List.map_set]
def Pm (l m:List ByteArray):Prop:=m.length=l.length∧∀x,x∈m↔x∈l
theorem Pm.refl (l:List ByteArray):Pm l l:=⟨rfl,fun _=>Iff.rfl⟩
theorem Pm.swap {l m:List ByteArray} {i j:Nat} (h:Pm l m) (hi:i<m.length) (hj:j<m.length):Pm l ((m.set i m[j]).set j m[i]):=by
 have hp:((m.set i m[j]).set j m[i]).Perm m:=List.set_set_perm hi hj;exact⟨by rw[List.length_set,List.length_set];exact h.1,fun x=>by rw[hp.mem_iff];exact h.2 x⟩
theorem c4p {l:List ByteArray} {rest:List (List Value)} {i j:Nat} (hi:i<l.length) (hj:j<l.length):((a1x l++rest).set i [.string l[j]]).set j [.string l[i]]=a1x ((l.set i l[j]).set j l[i])++rest:=by
 rw[a8O hi,a8O (by rw[List.length_set];exact hj)]
theorem b9a {l:List ByteArray} {rest:List (List Value)} {i j:Nat} (hi:i<l.length) (hj:j<l.length) (hij:i≠j):((a1x l++rest).set j [.string l[i]]).set i [.string l[j]]=a1x ((l.set i l[j]).set j l[i])++rest:=by
 rw[a8O hj,a8O (by rw[List.length_set];exact hi),List.set_comm _ _ hij.symm]
theorem a6s {α:Type} {ls:List (List α)} {i:Nat} (h:i<ls.length):(ls.take (i+1)).flatten=(ls.take i).flatten++ls[i]:=by
 rw[←a0c h,List.flatten_append];simp
theorem a6r {α:Type} (ls:List (List α)) (i:Nat):((ls.take i).flatten).length≤ls.flatten.length:=by
 conv=>rhs;rw[←List.take_append_drop i ls,List.flatten_append,List.length_append]
 omega
theorem d0h (b:UInt8):IntKind.i64.wrap ((b.toNat:Nat):Int)=((b.toNat:Nat):Int):=by
 have:=b.toNat_lt;rw[IntKind.wrap_i64];omega
theorem c5H (b:UInt8):I64 (0+((b.toNat:Nat):Int)):=by
 have:=b.toNat_lt;exact⟨oM,oM⟩
def a9N (r:Rep) (ns:List ByteArray):Prop:=(∀x,x∈ns↔a0g r=true∧∃e∈r.options,x∈a4b e)∧ns.length≤8
theorem c0g {e:Evt} (h:a1D e=true):1≤(a4b e).length∧(a4b e).length≤2:=by
 unfold a4b;rw[if_neg (by rw[h];decide)]
 split<;>simp
theorem a8A:∀(l:List Evt),(∀e∈l,a1D e=true)→l.length≤(l.map a4b).flatten.length∧(l.map a4b).flatten.length≤2 * l.length
 | [],_=>by simp
 |e::r,h=>by
  have h1:=c0g (h e (by simp));have h2:=a8A r fun x hx=>h x (by simp[hx])
  simp only[List.map_cons,List.flatten_cons,List.length_append,List.length_cons]
  omega
theorem b4O {r:Rep} (hv:a0g r=true) {m:List ByteArray} (hm:∀x,x∈m↔x∈(r.options.map a4b).flatten) (hl:m.length≤(r.options.map a4b).flatten.length):a9N r m:=by
 have h1:=a8A r.options (a5p hv);have h2:=a3g hv;refine⟨fun x=>?_,oM⟩;rw[hm x,List.mem_flatten]
 constructor
 ·rintro⟨ns,hns,hx⟩;obtain⟨e,he,rfl⟩:=List.mem_map.1 hns;exact⟨hv,e,he,hx⟩
 ·rintro⟨_,e,he,hx⟩;exact⟨_,List.mem_map.2 ⟨e,he,rfl⟩,hx⟩
theorem c0h {r:Rep} (hv:a0g r=false):a9N r []:=⟨fun x=>by simp[hv],by simp⟩
structure Cpt (l B:List ByteArray) (k p:Nat):Prop where
 len:B.length=l.length
 kp:k+1≤p
 pl:p≤l.length
 tail:∀j,p-1≤j→B[j]? = l[j]?
 mem:∀x,x∈B.take k↔x∈l.take p
theorem Cpt.start {l:List ByteArray} {k:Nat} (hk:1≤k) (hl:k<l.length) (h:l[k]=l[k-1]):Cpt l l k (k+1):=by
 refine⟨rfl,Nat.le_refl _,hl,fun _ _=>rfl,fun x=>?_⟩;rw[←a0c hl]
 constructor
 ·intro hx;exact List.mem_append_left _ hx
 ·intro hx
  rcases List.mem_append.1 hx with hx|hx
  ·exact hx
  ·obtain rfl:=List.mem_singleton.1 hx;rw[h];exact List.mem_take_iff_getElem.2 ⟨k-1,oM,rfl⟩
theorem Cpt.skip {l B:List ByteArray} {k p:Nat} (h:Cpt l B k p) (hp:p<l.length) (he:l[p]=l[p-1]) (h1:1≤p):Cpt l B k (p+1):=by
 refine⟨h.len,by have:=h.kp;omega,hp,fun j hj=>h.tail j oM,fun x=>?_⟩;rw[h.mem x,←a0c hp]
 constructor
 ·intro hx;exact List.mem_append_left _ hx
 ·intro hx
  rcases List.mem_append.1 hx with hx|hx
  ·exact hx
  ·obtain rfl:=List.mem_singleton.1 hx;rw[he];exact List.mem_take_iff_getElem.2 ⟨p-1,oM,rfl⟩
theorem Cpt.keep {l B:List ByteArray} {k p:Nat} (h:Cpt l B k p) (hp:p<l.length):Cpt l (B.set k l[p]) (k+1) (p+1):=by
 have hkp:=h.kp;have hkB:k<B.length:=by rw[h.len];omega
 refine⟨by rw[List.length_set];exact h.len,oM,hp,fun j hj=>?_,fun x=>?_⟩
 ·rw[List.getElem?_set_ne oM];exact h.tail j oM
 ·rw[←a0c (l:=B.set k l[p]) (i:=k) (by rw[List.length_set];exact hkB),←a0c hp,List.mem_append,List.mem_append,List.getElem_set_self,List.take_set_of_le (Nat.le_refl _),h.mem x]
theorem Cpt.get {l B:List ByteArray} {k p j:Nat} (h:Cpt l B k p) (hj:p-1≤j) (hl:j<l.length) (hb:j<B.length):B[j]=l[j]:=by
 have:=h.tail j hj;rw[List.getElem?_eq_getElem hl,List.getElem?_eq_getElem hb]at this
 exact Option.some.inj this
theorem Cpt.done {l B:List ByteArray} {k:Nat} (h:Cpt l B k l.length) (x:ByteArray):x∈B.take k↔x∈l:=by
 rw[h.mem x,List.take_length]
theorem c4o {B:List ByteArray} {rest:List (List Value)} {zs:List Value} {k m:Nat} (hk:k+m=B.length):(a1x B++rest).take k++(List.replicate m zs++(a1x B++rest).drop (k+m))=a1x (B.take k)++(List.replicate m zs++rest):=by
 rw[List.take_append_of_le_length (by rw[a2t];omega),hk,←a2t B,List.drop_left,a1x,a1x,List.map_take]
section
variable {P:Program} {ρ:Option Nat} {n:Sz} {E:Ent} {I:IMap} {L:LL} {H:List Res} {Q:Exit→Act→World→Prop} {ops:Array Oper} {K:Act→World→Prop}
variable {d ty:Nat} {pos:String} {af:Array Edge} {x y z:Operand}
theorem a5P {g off tt t':Nat} {xss:List (List Value)} {v:Value} (hm:Res.blk g t' xss.flatten∈H) (hU:Uk 1 xss) (ht:tyK P tt=some (false,1)) (hx:ev L x=some (.pointer (some ⟨g,off,none⟩))) (i:Nat) (ho:off=i) (hi:xss[i]? = some [v]) :
  OV P n E I L H ⟨some d,.load tt x,ty,pos,af,none⟩ v:=b1m hm ht hx (by
 subst ho;have h:=b6j hU hi;rw[Nat.mul_one]at h
 have:=congrArg (fun l:List Value=>l[0]?) h
 simpa using this)
theorem d2U {ts:Nat} {s:ByteArray} {i:Int} {kd:IntKind} (ht:P.underlying ts=some .string) (hx:ev L x=some (.string s)) (hy:ev L y=some (.int kd i)) (q:Nat) (hq:i=(q:Int)) (hlt:q<s.size):OV P n E I L H ⟨some d,.index ts x y,ty,pos,af,none⟩ (.int .u8 ((s[q]!.toNat:Nat):Int)):=
 (fun a w st _=>by
  subst hq;have hs:s[q]? = some (s[q]!):=by rw[getElem?_pos s q hlt,getElem!_pos s q hlt]
  simp[execOp,st.ev hx,st.ev hy,Instr.index,asIntOf,run_underlying ht,hs])
theorem b3z {tt tn e k bytes q:Nat} {kn kq:IntKind} {zs:List Value} (he:P.underlying tt=some (.slice e)) (hn:P.underlying tn=some (.int kn)) (hb:a2j P e=some (zs,k,bytes)) (hzs:zs.length=k) (hk0:Nat.blt 0 k=true)
  (hx:ev L x=some (.slice none 0 0)) (hy:ev L y=some (.int kq (q:Nat))) (hq:0<q) (hroom:q * bytes≤140737488355328) (hlen:q≤maxLen) (hd:Nat.blt d n.sz=true)
  (kk:∀g' r,q+r≤maxLen→SX n E I ((d,.slice (some ⟨g',0,none⟩) q (q+r))::L) (.blk g' e (List.replicate (q+r) zs).flatten::H) K) :
  SX n E I L H (one P ops Q ⟨some d,.call { callee:=.builtin .append,args:=#[x,y],argTypes:=#[tt,tn] },ty,pos,af,none⟩ K):=
 a9n (fun q':Nat×Nat=>.slice (some ⟨q'.1,0,none⟩) q (q+q'.2)) (fun _=>I) (fun q'=>.blk q'.1 e (List.replicate (q+q'.2) zs).flatten::H) (fun q'=>q+q'.2≤maxLen) hd
  (fun a w st mm=>by
   unfold a2j at hb
   split at hb
   ·rename_i inf hi
    cases hz:inf.zero with
    |none=>simp[hz]at hb
    |some z0=>
     simp only[hz,Option.map_some,Option.some.injEq,Prod.mk.injEq]at hb
     obtain⟨hz1,hz2,hz3⟩:=hb;have hk':0<k:=by simpa[Nat.blt_eq]using hk0
     have hz0:z0.cells=zs.toArray:=by rw[←hz1]
     have hold:(Builtin.firstCells inf.size 0 (.slice none 0 0)).run P w.drew = .ok ([]:List Value).toArray w.drew:=by
      have hl0:∀(b:Addr),(loadCells b 0).run P w.drew = .ok #[] w.drew:=fun b=>run_loadCells_list (P:=P) w.drew b [] (fun j v hv=>by simp at hv)
      simp[Builtin.firstCells,hl0]
     have hg:0<0+q:=oM;have hcapq:grownCap w (0+q) 0 e=q+(grownCap w (0+q) 0 e-q):=by have:=grownCap_ge w (0+q) 0 e;omega
     have h48:Builtin.nextslicecap (0+q) 0 * inf.bytes≤281474976710656:=by
      have h1:Builtin.nextslicecap (0+q) 0 * inf.bytes≤2 * (0+q) * inf.bytes:=Nat.mul_le_mul_right _ (Room.nextslicecap_le' hg);rw[Nat.mul_assoc,hz3]at h1
      rw[hz3]
      simp only[Nat.zero_add]at h1 ⊢
      omega
     have h48q:q * inf.bytes≤281474976710656:=by rw[hz3];omega
     have hr:=Lib.run_append_grow_zeros (P:=P) w tt tn ty e inf z0 kq kn he hn hi hz none 0 0 [] hold q hq oM hg (by unfold maxLen at hlen;omega) h48q h48
     have hzc:∀q,Builtin.zeroCells z0.cells q=(List.replicate q zs).flatten.toArray:=fun q=>by
      have h2:Builtin.zeroCells zs.toArray q=madeCells zs.toArray (q * zs.length):=by simp[Builtin.zeroCells,madeCells]
      rw[hz0,h2,a6l zs oM,a8m]
     rw[hzc,hzc]at hr
     simp only[Nat.zero_add]at hr hcapq
     refine⟨(w.heap.size,grownCap w q 0 e-q),w.drew.alloc (.cells (List.replicate (q+(grownCap w q 0 e-q)) zs).flatten.toArray e),?_,?_,mm.drew.alloc e _⟩
     ·show q+(grownCap w q 0 e-q)≤maxLen
      rw[←hcapq];exact grownCap_le_maxLen w q 0 e hlen
     ·have e1:([]:List Value).toArray++(List.replicate q zs).flatten.toArray++(List.replicate (grownCap w q 0 e-q) zs).flatten.toArray=(List.replicate (q+(grownCap w q 0 e-q)) zs).flatten.toArray:=by
       rw[List.append_toArray []  ,List.nil_append,List.append_toArray,←List.flatten_append,List.replicate_append_replicate]
      rw[e1]at hr
      simp only[execOp,resolve,invoke,builtin,Sem.run_bind,Sem.run_pure,Result.andThen_ok,List.map_toArray,List.map_cons,List.map_nil,st.ev hx,st.ev hy,hr]
      rw[←hcapq]
   ·cases hb) fun q' hq'=>kk q'.1 q'.2 hq'
theorem FnX.backE {f:FuncId} {args:Array Value} {g e k:Nat} {xs:List Value} {p:Value→Res→Prop}
  (h:FnX P f args I [.blk g e xs] (fun u r=>∃yss rest m cap,Uk k yss∧Uk k rest∧yss.length=m∧m+rest.length=cap∧cap≤maxLen∧r = .blk g e (yss++rest).flatten∧p u (.row (.slice (some ⟨g,0,none⟩) m cap) e k m yss.flatten))):FnX P f args I [.blk g e xs] p:=
 ⟨fun w m'=>(h.go w m').mono fun _ w' ⟨u,I',H',he,hm',hq⟩=>by
  obtain⟨rfl,r',rfl,yss,rest,m,cap,hU,hR,hm,hc,hl,rfl,hp⟩:=hq;refine⟨_,_,_,he,?_,rfl,_,rfl,hp⟩;have hb:w'.heap[g]? = some (.cells (yss++rest).flatten.toArray e (0,0)):=hm'.blk
  exact hm'.step rfl ⟨rfl,Nat.le_refl _⟩ rfl (Nat.le_refl _) (fun _ _ _=>rfl) (IsRow.shut hb hU hR hm hc hl) (fun g' hg'=>.inl hg')⟩
theorem FnX.weak {f:FuncId} {args:Array Value} {H:List Res} {p q:Value→Res→Prop} (h:FnX P f args I H p) (hpq:∀u r,p u r→q u r):FnX P f args I H q:=
 ⟨fun w m'=>(h.go w m').mono fun _ w' ⟨u,I',H',he,hm',hq⟩=>by
  obtain⟨rfl,r',rfl,hp⟩:=hq
  exact⟨_,_,_,he,hm',rfl,_,rfl,hpq _ _ hp⟩⟩
theorem FnX.of_rowF {α:Type} [Enc α] {f:FuncId} {args:Value→List Value} {p:Value→Res→Prop} {v:Value} {e k m:Nat} {xs:List Value} {l:List α} (hF:Flat I xs l) (hk:k=Enc.k α) (hm:m=l.length) (h0:0<l.length)
  (h1:∀g cap rest xss,v = .slice (some ⟨g,0,none⟩) m cap→FlatC I xss l→Uk k rest→m+rest.length=cap→cap≤maxLen→FnX P f (args (.slice (some ⟨g,0,none⟩) m cap)).toArray I [.blk g e (xss++rest).flatten] p):FnX P f (args v).toArray I [.row v e k m xs] p:=by
 obtain⟨xss,rfl,hC⟩:=FlatC.of hF;exact FnX.of_rowV (by rw[hk];exact hC.uk) (by rw[hC.len,hm]) (fun h _=>absurd h oM) fun g cap rest hv hR hc hl=>h1 g cap rest xss hv hC hR hc hl
end
end Go.Sx
set_option linter.all false
namespace Go.Sx
open Go
section
variable {α:Type} [Inhabited α] {w:World} {g t:Nat} {cur:Array Value}
theorem getI! (d:Array α) (j:Nat) (h:j<d.size):d[j]! = d[j]:=getElem!_pos d j h
theorem b4D {enc:α→Value} (hg:w.heap[g]? = some (.cells cur t (0,0))) (d:Array α) (h:cur.toList.take d.size=d.toList.map enc):Sort.Holds enc w g 0 d:=by
 intro j hj
 have hc:cur[j]? = some (enc d[j]!):=by
  have h1:(cur.toList.take d.size)[j]? = (d.toList.map enc)[j]?:=by rw[h]
  rw[List.getElem?_take,if_pos hj,List.getElem?_map,Array.getElem?_toList,Array.getElem?_toList,Array.getElem?_eq_getElem hj]at h1
  rw[h1,getI! d j hj];rfl
 constructor
 ·simp only[World.cell?,hg,Nat.zero_add]
  exact hc
 ·simp[World.frozen?,hg]
theorem a9e {enc:α→Value} (hg:w.heap[g]? = some (.cells cur t (0,0))) (d:Array α) (hd:d.size≤cur.size) (n:Nat) (os:Array Obj) :
  ∃cur',(Sort.grow (Sort.putRow enc (Sort.ahead w n) g 0 d) os).heap[g]? = some (.cells cur' t (0,0))∧cur'.size=cur.size∧cur'.toList.take d.size=d.toList.map enc ∧
   w.heap.size≤(Sort.grow (Sort.putRow enc (Sort.ahead w n) g 0 d) os).heap.size∧∀k,k<w.heap.size→k≠g→(Sort.grow (Sort.putRow enc (Sort.ahead w n) g 0 d) os).heap[k]? = w.heap[k]?:=by
 have hlt:g<w.heap.size:=(Array.getElem?_eq_some_iff.1 hg).1;have hh:(Sort.grow (Sort.putRow enc (Sort.ahead w n) g 0 d) os).heap=w.heap.modify g (Sort.onCells (Sort.putCells enc 0 d))++os:=rfl;refine⟨Sort.putCells enc 0 d cur,?_,by simp[Sort.putCells],?_,by rw[hh];simp,fun k hk hne=>?_⟩
 ·rw[hh,Array.getElem?_append_left (by simpa using hlt),Array.getElem?_modify,if_pos rfl,hg];rfl
 ·refine List.ext_getElem? fun j=>?_
  rw[List.getElem?_take,List.getElem?_map,Array.getElem?_toList,Array.getElem?_toList]
  by_cases hj:j<d.size
  ·rw[if_pos hj,Array.getElem?_eq_getElem hj]
   simp only[Sort.putCells,Array.getElem?_mapIdx]
   rw[Array.getElem?_eq_getElem (by omega:j<cur.size)]
   simp only[Option.map_some]
   rw[if_pos ⟨Nat.zero_le _,oM⟩,Nat.sub_zero,getI! d j hj]
  ·rw[if_neg hj,Array.getElem?_eq_none oM];rfl
 ·rw[hh,Array.getElem?_append_left (by simpa using hk),Array.getElem?_modify,if_neg (fun e=>hne e.symm)]
end
def SrtP (l m:List ByteArray):Prop:=m.Perm l∧m.Pairwise fun a b=>sLt b a=false
def toL (s:ByteArray):List UInt8:=s.data.toList
def ofL (b:List UInt8):ByteArray:=⟨b.toArray⟩
theorem c4A (b:List UInt8):toL (ofL b)=b:=rfl
theorem d2m (a b:ByteArray):sLt a b=decide (toL a<toL b):=by
 unfold sLt;rw[Proofs.bytesLess_eq,ByteArray.toList_eq,ByteArray.toList_eq];rfl
theorem b7e (l:List ByteArray):SrtP l (((l.map toL).mergeSort fun x y=>decide (x≤y)).map ofL):=by
 have h1:=List.mergeSort_perm (l.map toL) (fun x y=>decide (x≤y));have h2:=List.pairwise_mergeSort (le:=fun x y:List UInt8=>decide (x≤y)) (fun a b c hab hbc=>by simp only[decide_eq_true_eq]at *;exact List.le_trans hab hbc) (fun a b=>by simp only[Bool.or_eq_true,decide_eq_true_eq];exact List.le_total a b) (l.map toL)
 constructor
 ·have h3:=h1.map ofL;rw[List.map_map]at h3
  have e:(ofL∘toL)=id:=by funext s;rfl
  rwa[e,List.map_id]at h3
 ·rw[List.pairwise_map];refine h2.imp fun {a b} h=>?_
  rw[d2m,c4A,c4A,decide_eq_false_iff_not]
  simp only[decide_eq_true_eq]at h
  exact h
theorem a8c (l:List ByteArray):(a1x l).flatten=l.map Value.string:=by
 induction l with
 |nil=>rfl
 |cons x l ih=>simp only[a1x,List.map_cons,List.flatten_cons]at *;rw[ih];rfl
section
variable {P:Program} {f:FuncId} {I:IMap}
theorem c8c (he:∀args w,(callFunc f args).run P w = .ok (.enter f args) w)
  (hk:∀(blk off cap:Nat) (ss:List (List UInt8)) (w:World),Sort.Holds Proofs.encStr w blk off ss.toArray→blk<w.heap.size→ss.length<4611686018427387904 →
   Calls P f #[.slice (some ⟨blk,off,none⟩) ss.length cap] w fun e w'=>e = .returned (.tuple #[])∧∃n os,w'=Sort.grow (Sort.putRow Proofs.encStr (Sort.ahead w n) blk off (ss.mergeSort fun x y=>decide (x≤y)).toArray) os)
  (hnil:FnV P f #[.slice none 0 0] I (.tuple #[])) {v:Value} {t:Nat} {l:List ByteArray} {xs:List Value} (hF:Flat I xs l) (hl:l.length≤1000000) :
  FnX P f #[v] I [.row v t 1 l.length xs] (fun u r=>u = .tuple #[]∧∃m ys,SrtP l m∧Flat I ys m∧r = .row v t 1 l.length ys):=by
 obtain⟨xss,rfl,hC⟩:=FlatC.of hF;obtain rfl:=b8Z hC;refine⟨fun w m=>?_⟩;have hrow:=m.holds _ (List.mem_cons_self ..);obtain⟨hx,h|⟨g,cap,cur,hv,hg,hn,hc,hs,ht⟩⟩:=hrow
 ·obtain⟨rfl,hl0⟩:=h;obtain rfl:l=[]:=List.eq_nil_of_length_eq_zero hl0
  exact ((FnX.of_V (t:=t) (k:=1) hnil).weak (fun u r hur=>by
   obtain⟨rfl,rfl⟩:=hur
   exact⟨rfl,[],[],⟨.refl _,.nil⟩,.nil,rfl⟩)).go w m.drop
 subst hv;unfold After;rw[he];have hflat:=a8c l
 have hH:Sort.Holds Proofs.encStr w g 0 (l.map toL).toArray:=b4D hg _ (by
  rw[Nat.mul_one]at ht
  simp only[List.size_toArray,List.length_map]
  rw[ht,hflat,List.map_map]
  rfl)
 have hcall:=hk g 0 cap (l.map toL) w hH (Array.getElem?_eq_some_iff.1 hg).1 (by rw[List.length_map];omega);rw[List.length_map]at hcall
 refine Calls.mono hcall fun e w' h=>?_
 obtain⟨rfl,n,os,rfl⟩:=h
 obtain⟨cur',h1,h2,h3,h4,h5⟩:=a9e (enc:=Proofs.encStr) hg ((l.map toL).mergeSort fun x y=>decide (x≤y)).toArray (by
  simp only[List.size_toArray,List.length_mergeSort,List.length_map];omega) n os
 have hsl:((l.map toL).mergeSort fun x y=>decide (x≤y)).length=l.length:=by rw[List.length_mergeSort,List.length_map]
 refine⟨.tuple #[],I,[.row (.slice (some ⟨g,0,none⟩) l.length cap) t 1 l.length (a1x (((l.map toL).mergeSort fun x y=>decide (x≤y)).map ofL)).flatten],rfl,?_,rfl,_,rfl,rfl,_,_,b7e l,(a2T I _).flat,rfl⟩;refine m.step rfl ⟨rfl,Nat.le_add_right w.drawn n⟩ rfl h4 (fun k hk hne=>h5 k hk fun e=>hne (by subst e;rfl)) ?_ (fun g' hg'=>.inl hg');have hfl:∀q:List (List UInt8),(a1x (q.map ofL)).flatten=q.map Proofs.encStr:=fun q=>by rw[a8c,List.map_map];rfl
 refine⟨by rw[hfl,List.length_map,hsl,Nat.mul_one],.inr ⟨g,cap,cur',rfl,h1,hn,hc,by rw[h2,hs],?_⟩⟩
 simp only[List.size_toArray,hsl]at h3
 rw[Nat.mul_one,h3,hfl]
end
end Go.Sx
set_option linter.all false
namespace Go.Sx
open Go
def I00:IMap:=fun _=>none
theorem d7F (W:World):Mem ⟨[],I00,W⟩ I00 [] W:=
 ⟨Upd.refl _ _,fun b o hb=>(by cases hb),ILe.refl _,fun b hb=>absurd rfl hb,fun r hr=>(by cases hr),fun r hr=>(by cases hr),List.nodup_nil⟩
theorem c4D {W W':World} (h:Upd [] W W'):∃q os,W'=Sort.grow (W.drewN q) os:=by
 obtain⟨h1,⟨h2,h3⟩,h4,h5,h6⟩:=h;refine⟨W'.drawn-W.drawn,W'.heap.extract W.heap.size W'.heap.size,?_⟩
 have hh:W'.heap=W.heap++W'.heap.extract W.heap.size W'.heap.size:=by
  refine Array.ext_getElem? fun i=>?_
  by_cases hi:i<W.heap.size
  ·rw[Array.getElem?_append_left hi];exact h6 i hi (by simp)
  ·rw[Array.getElem?_append_right oM,Array.getElem?_extract]
   by_cases hj:i<W'.heap.size
   ·rw[if_pos oM,show W.heap.size+(i-W.heap.size)=i by omega]
   ·rw[if_neg oM,Array.getElem?_eq_none oM]
 have hd:W'.drawn=W.drawn+(W'.drawn-W.drawn):=oM
 cases W with
 |mk hp tp dr os ot=>
  cases W' with
  |mk hp' tp' dr' os' ot'=>
   simp only at h1 h2 h4 hh hd
   subst h1 h2 h4;unfold Sort.grow World.drewN
   simp only
   rw[←hh,←hd]
section
variable {P:Program} {α:Type} [Inhabited α] {cells:α→List Value} {k:Nat} {cf:α→α→Int}
theorem b9x {gf:FuncId} (eg:∀args w,(callFunc gf args).run P w = .ok (.enter gf args) w) (hc:∀x y,FnV P gf #[.agg (cells x).toArray,.agg (cells y).toArray] I00 (.int .i64 (cf x y))) (blk off size:Nat) (w:World):Proofs.CmpLays P gf #[] cells k cf blk off size w:=by
 intro m os dk _ x y;have h:=(hc x y).go _ (d7F (Proofs.sortWorldK cells k w blk off m dk os));unfold After at h
 rw[eg]at h
 refine Calls.mono h fun e w' hp=>?_
 obtain⟨v,I',H',rfl,hm,rfl,rfl,rfl⟩:=hp;obtain⟨q,os',h2⟩:=c4D hm.upd;exact⟨rfl,q,os',h2⟩
theorem a8w (hk:∀x,(cells x).length=k):∀l:List α,(Sort.flatK cells k l.toArray).toList=l.flatMap cells
 | []=>by simp[Sort.flatK]
 |x::l=>by
  have ih:=a8w hk l
  simp only[Sort.flatK,Array.toList_map,Array.toList_range,List.size_toArray]at ih ⊢
  rw[List.length_cons,Nat.add_mul,Nat.one_mul,Nat.add_comm,List.range_add,List.map_append,List.map_map,List.flatMap_cons]
  congr 1
  ·refine List.ext_getElem? fun t=>?_
   rw[List.getElem?_map]
   by_cases ht:t<k
   ·rw[List.getElem?_range ht,Option.map_some,Nat.div_eq_of_lt ht,Nat.mod_eq_of_lt ht];have hl:t<(cells x).length:=by rw[hk];exact ht
    rw[List.getElem?_eq_getElem hl]
    simp[hl]
   ·rw[List.getElem?_eq_none (by simpa using ht),List.getElem?_eq_none (by rw[hk];omega)];rfl
  ·rw[←ih];refine List.map_congr_left fun t ht=>?_
   have h0:0<k:=by
    rcases Nat.eq_zero_or_pos k with h|h
    ·subst h;simp at ht
    ·exact h
   simp only[Function.comp]
   rw[Nat.add_div_left _ h0,Nat.add_mod_left];have e:(x::l).toArray[t / k+1]! = l.toArray[t / k]!:=by simp
   rw[e]
def c5p (cf:α→α→Int) (l m:List α):Prop:=m.Perm l∧m.Pairwise fun a b=>¬cf b a<0
theorem d2y {l:List α} {d':Array α} (hp:Sort.PermIn 0 l.toArray.size l.toArray d') (hs:Sort.SortedIn (Proofs.ltOf cf) 0 l.toArray.size d'):c5p cf l d'.toList:=by
 obtain⟨h1,_,h3⟩:=hp;have hsz:d'.size=l.length:=by simpa using h1
 constructor
 ·simpa[List.take_of_length_le (show d'.toList.length≤l.length by rw[Array.length_toList,hsz];exact Nat.le_refl _)]using h3
 ·rw[List.pairwise_iff_getElem];intro i j hi hj hij;have hj':j<d'.size:=by simpa using hj
  have h:=hs i j (Nat.zero_le _) hij (by simp only[List.size_toArray];omega);rw[getI! d' i oM,getI! d' j hj']at h
  simp only[Proofs.ltOf,decide_eq_false_iff_not]at h
  simpa using h
theorem c8b {f gf:FuncId} {I:IMap} (he:∀args w,(callFunc f args).run P w = .ok (.enter f args) w) (eg:∀args w,(callFunc gf args).run P w = .ok (.enter gf args) w)
  (hk:∀(blk off cap:Nat) (d:Array α) (w:World),Proofs.CmpLays P gf #[] cells k cf blk off d.size w→Sort.HoldsK cells k w blk off d→blk<w.heap.size→d.size<4611686018427387904 →
   Calls P f #[.slice (some ⟨blk,off,none⟩) d.size cap,.func (.func gf) #[] #[]] w fun e w'=>e = .returned (.tuple #[])∧∃d' n os,Sort.PermIn 0 d.size d d'∧Sort.SortedIn (Proofs.ltOf cf) 0 d.size d'∧w'=Proofs.sortWorldK cells k w blk off n d' os)
  (hnil:∀w,Calls P f #[.slice none 0 0,.func (.func gf) #[] #[]] w fun e w'=>e = .returned (.tuple #[])∧w'=w)
  (hc:∀x y,FnV P gf #[.agg (cells x).toArray,.agg (cells y).toArray] I00 (.int .i64 (cf x y))) (hlen:∀x,(cells x).length=k) {v:Value} {t:Nat} {l:List α} (hl:l.length≤1000000) :
  FnX P f #[v,.func (.func gf) #[] #[]] I [.row v t k l.length (l.flatMap cells)] (fun u r=>u = .tuple #[]∧∃m,c5p cf l m∧r = .row v t k l.length (m.flatMap cells)):=by
 refine⟨fun w m=>?_⟩;have hrow:=m.holds _ (List.mem_cons_self ..);unfold After;rw[he];obtain⟨hx,h|⟨g,cap,cur,hv,hg,hn,hcm,hs,ht⟩⟩:=hrow
 ·obtain⟨rfl,hl0⟩:=h;obtain rfl:l=[]:=List.eq_nil_of_length_eq_zero hl0;refine Calls.mono (hnil w) fun e w' h=>?_
  obtain⟨rfl,rfl⟩:=h;exact⟨_,I,_,rfl,m,rfl,_,rfl,rfl,[],⟨.refl _,.nil⟩,rfl⟩
 subst hv;have hfs:∀q:List α,q.length=l.length→(Sort.flatK cells k q.toArray).size=l.length * k:=fun q hq=>by simp[hq]
 have hH:Sort.HoldsK cells k w g 0 l.toArray:=by
  refine b4D (enc:=id) hg _ ?_;rw[hfs l rfl,ht,List.map_id,a8w hlen]
 have hcall:=hk g 0 cap l.toArray w (b9x eg hc g 0 _ w) hH (Array.getElem?_eq_some_iff.1 hg).1 (by simp only[List.size_toArray];omega);refine Calls.mono hcall fun e w' h=>?_
 obtain⟨rfl,d',n,os,hp,hso,rfl⟩:=h;have hsr:=d2y hp hso;have hdl:d'.toList.length=l.length:=hsr.1.length_eq;have hfd:(Sort.flatK cells k d').size=l.length * k:=by have:=hfs d'.toList hdl;simpa using this
 obtain⟨cur',h1,h2,h3,h4,h5⟩:=a9e (enc:=id) hg (Sort.flatK cells k d') (by rw[hfd,hs];exact Nat.mul_le_mul_right k hn) n os;have hfl:(Sort.flatK cells k d').toList=d'.toList.flatMap cells:=a8w hlen d'.toList;refine⟨.tuple #[],I,[.row (.slice (some ⟨g,0,none⟩) l.length cap) t k l.length (d'.toList.flatMap cells)],rfl,?_,rfl,_,rfl,rfl,_,hsr,rfl⟩;refine m.step rfl ⟨rfl,Nat.le_add_right w.drawn n⟩ rfl h4 (fun q hq hne=>h5 q hq fun e=>hne (by subst e;rfl)) ?_ (fun g' hg'=>.inl hg');rw[hfd,List.map_id,hfl]at h3
 refine⟨?_,.inr ⟨g,cap,cur',rfl,h1,hn,hcm,by rw[h2,hs],h3⟩⟩;rw[←hfl,Array.length_toList,hfd]
end
end Go.Sx
set_option linter.all false
namespace Go.Sx
open Go
def orI:List Int→Int
 | []=>0
 |x::l=>if x≠0 then x else orI l
theorem d1z {l:List Int} {i:Nat} (h:i<l.length) (h0:l[i]=0):orI (l.drop i)=orI (l.drop (i+1)):=by
 rw[List.drop_eq_getElem_cons h,orI,if_neg (by rw[h0];decide)]
theorem d4M {l:List Int} {i:Nat} (h:i<l.length) (h0:¬l[i]=0):l[i]=orI (l.drop i):=by
 rw[List.drop_eq_getElem_cons h,orI,if_pos h0]
instance:Inhabited Due:=⟨⟨a0M,a0M,0⟩⟩
theorem c4m {l m:List ByteArray} (h:SrtP l m) (hn:l.Nodup):SrtU sLt m:=by
 have hnm:m.Nodup:=(h.1.nodup_iff).2 hn;rw[List.nodup_iff_pairwise_ne]at hnm
 refine (h.2.and hnm).imp fun {a b} hab=>?_
 cases hc:sLt a b with
 |true=>rfl
 |false=>exact absurd (b3J hc hab.1) hab.2
theorem c2G {pre:List ByteArray} {todo a b kvs:List (ByteArray×Value)} {e:ByteArray×Value} (hP:(pre++todo.map Prod.fst).Perm (kvs.map Prod.fst)) (h:todo=a++e::b):(pre++[e.1]++(a++b).map Prod.fst).Perm (kvs.map Prod.fst):=by
 subst h;refine List.Perm.trans ?_ hP;rw[List.append_assoc,List.map_append,List.map_append,List.map_cons];exact List.Perm.append_left _ (List.perm_middle (a:=e.1) (l₁:=a.map Prod.fst) (l₂:=b.map Prod.fst)).symm
theorem d0X {pre:List ByteArray} {todo a b kvs:List (ByteArray×Value)} {e:ByteArray×Value} (hP:(pre++todo.map Prod.fst).Perm (kvs.map Prod.fst)) (h:todo=a++e::b):pre.length<kvs.length:=by
 subst h;have:=hP.length_eq
 simp at this
 omega
theorem b5d (ds:List Dut) (c:List Kind) (l:List Evt) (p:ByteArray) (day:Int):(b1J ds c l p day).length≤ds.length:=by
 unfold b1J
 split
 ·exact Nat.zero_le _
 ·exact List.length_filterMap_le _ _
theorem KeysD.len {kvs:List (Due×Value)} {L:List Due} (h:KeysD kvs L):kvs.length≤L.length:=by
 have:=h.1.length_le_of_subset (l₂:=L) fun x hx=>(h.2 x).1 hx
 rwa[List.length_map]at this
section
variable {ds:List Dut} {c:List Kind} {l:List Evt} {p:ByteArray} {day:Int} {kvs done:List (Due×Value)}
end
def KeysN (kvs:List (ByteArray×Value)) (L:List ByteArray):Prop:=(kvs.map Prod.fst).Nodup∧∀x,x∈kvs.map Prod.fst↔x∈L
theorem KeysN.nil:KeysN [] []:=⟨List.nodup_nil,fun x=>Iff.rfl⟩
def a9l (day:Int) (done:List (Due×Value)):List ByteArray:=((done.map Prod.fst).filter fun x=>decide (x.day<day)).map Due.rule
theorem KeysN.yes {day:Int} {done:List (Due×Value)} {e:Due×Value} {ns:List (ByteArray×Value)} {v:Value} (h:KeysN ns (a9l day done)) (hd:e.1.day<day):KeysN (a4I ns e.1.rule v) (a9l day (done++[e])):=
 ⟨b0I h.1,fun x=>by rw[a7D,h.2];simp[a9l,hd,or_comm]⟩
theorem KeysN.no {day:Int} {done:List (Due×Value)} {e:Due×Value} {ns:List (ByteArray×Value)} (h:KeysN ns (a9l day done)) (hd:¬e.1.day<day):KeysN ns (a9l day (done++[e])):=
 ⟨h.1,fun x=>by rw[h.2];simp[a9l,hd]⟩
theorem KeysN.len {day:Int} {done:List (Due×Value)} {ns:List (ByteArray×Value)} (h:KeysN ns (a9l day done)):ns.length≤done.length:=by
 have h1:=h.1.length_le_of_subset (l₂:=a9l day done) fun x hx=>(h.2 x).1 hx
 rw[List.length_map]at h1
 refine Nat.le_trans h1 ?_;unfold a9l;rw[List.length_map];exact Nat.le_trans (List.length_filter_le _ _) (by rw[List.length_map];exact Nat.le_refl _)
section
variable {ds:List Dut} {c:List Kind} {l:List Evt} {p:ByteArray} {day:Int} {kvs done:List (Due×Value)} {ns:List (ByteArray×Value)}
theorem d0Z {m:List ByteArray} (hK:KeysD kvs (b1J ds c l p day)) (hd:done.Perm kvs) (hN:KeysN ns (a9l day done)) (hs:SrtP (ns.map Prod.fst) m):b3q ds c l p day=m:=by
 refine SrtU.uniq a1K (fun a b c h1 h2=>a2B h1 h2) c2I (c4m hs hN.1) fun z=>?_
 rw[c2H,hs.1.mem_iff,hN.2];unfold a9l;rw[List.mem_map]
 constructor
 ·rintro⟨x,hx,h1,h2⟩;exact⟨x,List.mem_filter.2 ⟨(hd.map Prod.fst).mem_iff.2 ((hK.2 x).2 hx),by simpa using h1⟩,h2⟩
 ·rintro⟨x,hx,h2⟩;obtain⟨h3,h4⟩:=List.mem_filter.1 hx;exact⟨x,(hK.2 x).1 ((hd.map Prod.fst).mem_iff.1 h3),by simpa using h4,h2⟩
end
theorem SrtP.perm {l l' m:List ByteArray} (h:SrtP l m) (hp:l.Perm l'):SrtP l' m:=⟨h.1.trans hp,h.2⟩
section
variable {P:Program} {f:FuncId} {args:Array Value} {v:Value}
end
end Go.Sx
set_option linter.all false
namespace Go.Sx
open Go
section
variable {P:Program} {t:TypeId}
theorem c3m {ts ti:TypeId} (hf:a0C P t=some [(ts,0,1),(ts,1,1),(ts,2,1),(ti,3,1),(ti,4,1)]) (hc:P.cellsOf t=5) (hs:a0X P ts ByteArray SmB) (hi:a0X P ti Int I64):a0X P t Dut SmD:=by
 intro H enc w base spare held fuel cs x h;obtain⟨hl,hall⟩:=a0U hf h;rw[hc]at hl
 obtain⟨a0,r0_,rfl,l0_⟩:=a0f hl;obtain⟨a1,r1_,rfl,l1_⟩:=a0f l0_;obtain⟨a2,r2_,rfl,l2_⟩:=a0f l1_;obtain⟨a3,r3_,rfl,l3_⟩:=a0f l2_;obtain⟨a4,r4_,rfl,l4_⟩:=a0f l3_;obtain rfl:=a2y l4_;obtain⟨n0,y0,h0⟩:=hall (ts,0,1) (by simp);obtain⟨x0,e0,g0⟩:=hs enc w base spare held n0 _ y0 h0;have e0:[a0]=[.string x0]:=e0
 cases e0
 obtain⟨n1,y1,h1⟩:=hall (ts,1,1) (by simp);obtain⟨x1,e1,g1⟩:=hs enc w base spare held n1 _ y1 h1;have e1:[a1]=[.string x1]:=e1
 cases e1
 obtain⟨n2,y2,h2⟩:=hall (ts,2,1) (by simp);obtain⟨x2,e2,g2⟩:=hs enc w base spare held n2 _ y2 h2;have e2:[a2]=[.string x2]:=e2
 cases e2
 obtain⟨n3,y3,h3⟩:=hall (ti,3,1) (by simp);obtain⟨x3,e3,g3⟩:=hi enc w base spare held n3 _ y3 h3;have e3:[a3]=[.int .i64 x3]:=e3
 cases e3
 obtain⟨n4,y4,h4⟩:=hall (ti,4,1) (by simp);obtain⟨x4,e4,g4⟩:=hi enc w base spare held n4 _ y4 h4;have e4:[a4]=[.int .i64 x4]:=e4
 cases e4
 exact⟨⟨x0,x1,x2,x3,x4⟩,rfl,g0,g1,g2⟩
end
end Go.Sx
set_option linter.all false
namespace Go.Sx
open Go
mutual
def cntX:Xp→Nat
 |.mk _ _ _ _ _ kids=>cntXL kids+1
def cntXL:List Xp→Nat
 | []=>0
 |k::ks=>cntX k+cntXL ks
end
theorem b7E:∀{ks:List Xp} {k:Xp},k∈ks→cntX k≤cntXL ks
 | [],k,h=>by cases h
 |x::ks,k,h=>by
  simp only[cntXL]
  rcases List.mem_cons.1 h with rfl|h
  ·omega
  ·have:=b7E h;omega
theorem a7l {x k:Xp} (h:k∈x.kids):cntX k<cntX x:=by
 obtain⟨op,s,u,n,e,kids⟩:=x;have:=b7E (show k∈kids from h)
 simp only[cntX];omega
def a2I {α σ:Type} (fo:σ→α→Bool×σ):σ→List α→Nat→Int×σ
 |s,[],_=>(-1,s)
 |s,x::xs,i=>if (fo s x).1=true then ((i:Int),(fo s x).2) else a2I fo (fo s x).2 xs (i+1)
section
variable {α σ:Type} {fo:σ→α→Bool×σ} {l:List α} {s t:σ} {i:Nat}
theorem b5r (h:i<l.length) (hn:(fo t l[i]).1=false):a2I fo t (l.drop i) i=a2I fo (fo t l[i]).2 (l.drop (i+1)) (i+1):=by
 rw[List.drop_eq_getElem_cons h]
 simp only[a2I,hn,Bool.false_eq_true,if_false]
theorem a9E (h:i<l.length) (hn:(fo t l[i]).1=true):a2I fo t (l.drop i) i=((i:Int),(fo t l[i]).2):=by
 rw[List.drop_eq_getElem_cons h]
 simp only[a2I,hn,if_true]
theorem a9D (h:¬i<l.length):a2I fo t (l.drop i) i=(-1,t):=by
 rw[List.drop_eq_nil_of_le oM];rfl
end
mutual
def wkS {σ:Type} (out:σ→Xp→Bool) (nx:σ→Xp→σ):Xp→σ→Bool×σ
 |.mk op n v a e ks,s=>if out s (.mk op n v a e ks)=true then wkL out nx ks (nx s (.mk op n v a e ks)) else (false,nx s (.mk op n v a e ks))
def wkL {σ:Type} (out:σ→Xp→Bool) (nx:σ→Xp→σ):List Xp→σ→Bool×σ
 | [],s=>(true,s)
 |k::ks,s=>if (wkS out nx k s).1=true then wkL out nx ks (wkS out nx k s).2 else (false,(wkS out nx k s).2)
end
section
variable {σ:Type} {out:σ→Xp→Bool} {nx:σ→Xp→σ}
def wkF (out:σ→Xp→Bool) (nx:σ→Xp→σ) (s:σ) (k:Xp):Bool×σ:=(!(wkS out nx k s).1,(wkS out nx k s).2)
theorem b9o:∀(ks:List Xp) (s:σ) (i:Nat),(wkL out nx ks s).1 = !decide (0≤(a2I (wkF out nx) s ks i).1)∧(wkL out nx ks s).2=(a2I (wkF out nx) s ks i).2
 | [],s,i=>by simp[wkL,a2I]
 |k::ks,s,i=>by
  have ih:=b9o ks (wkS out nx k s).2 (i+1)
  by_cases h:(wkS out nx k s).1=true
  ·simp only[wkL,a2I,wkF,h,if_true,Bool.not_true,Bool.false_eq_true,if_false]
   exact ih
  ·have h':(wkS out nx k s).1=false:=by simpa using h
   simp only[wkL,a2I,wkF,h',Bool.false_eq_true,if_false,Bool.not_false,if_true]
   exact⟨by simp,trivial⟩
theorem c9x {x:Xp} {s:σ} (h:out s x=false):wkS out nx x s=(false,nx s x):=by
 cases x;simp only[wkS,h,Bool.false_eq_true,if_false]
theorem c4Y {x:Xp} {s:σ} (h:out s x=true):wkS out nx x s=(!decide (0≤(a2I (wkF out nx) (nx s x) x.kids 0).1),(a2I (wkF out nx) (nx s x) x.kids 0).2):=by
 have e:wkS out nx x s=wkL out nx x.kids (nx s x):=by cases x;simp only[wkS,h,if_true];rfl
 have h2:=b9o (out:=out) (nx:=nx) x.kids (nx s x) 0;rw[e];exact Prod.ext h2.1 h2.2
end
mutual
def allX (p:Xp→Bool):Xp→Bool
 |.mk op n v a e ks=>p (.mk op n v a e ks)&&allXL p ks
def allXL (p:Xp→Bool):List Xp→Bool
 | []=>true
 |k::ks=>allX p k&&allXL p ks
end
mutual
theorem wk_all (p:Xp→Bool):∀(x:Xp) (s:Unit),(wkS (fun _ x=>p x) (fun s _=>s) x s).1=allX p x
 |.mk op n v a e ks,s=>by
  simp only[wkS,allX]
  split
  ·rename_i h;rw[h,Bool.true_and];exact wk_allL p ks s
  ·rename_i h;simp at h;simp[h]
theorem wk_allL (p:Xp→Bool):∀(ks:List Xp) (s:Unit),(wkL (fun _ x=>p x) (fun s _=>s) ks s).1=allXL p ks
 | [],s=>by simp[wkL,allXL]
 |k::ks,s=>by
  simp only[wkL,allXL]
  split
  ·rename_i h
   have h1:=wk_all p k s;rw[h]at h1
   rw[←h1,Bool.true_and];exact wk_allL p ks _
  ·rename_i h
   have h1:=wk_all p k s;have h:(wkS (fun _ x=>p x) (fun s _=>s) k s).1=false:=by simpa using h
   rw[h]at h1
   rw[←h1];rfl
end
def szN (n:Int) (_:Xp):Int:=IntKind.i64.wrap (n+1)
def szO (n:Int) (_:Xp):Bool:=decide (IntKind.i64.wrap (n+1)≤60)
theorem d8a {n:Int} {x:Xp} (h0:0≤n) (h1:n≤60):szN n x=n+1∧szO n x=decide (n+1≤60):=by
 have e:IntKind.i64.wrap (n+1)=n+1:=by rw[IntKind.wrap_i64];omega
 unfold szN szO;rw[e];exact⟨rfl,rfl⟩
def c7U (x:Xp):Int:=(wkS szO szN x 0).2
mutual
theorem wk_size:∀(x:Xp) (n:Int),0≤n→n≤60→(wkS szO szN x n).1=decide (n+cntX x≤60)∧(wkS szO szN x n).2=min (n+cntX x) 61
 |.mk op nm v a e ks,n,h0,h1=>by
  have:=wk_sizeL ks (n+1);obtain⟨e1,e2⟩:=d8a (x:=.mk op nm v a e ks) h0 h1
  simp only[wkS,cntX,e1,e2,decide_eq_true_eq]
  split
  ·rename_i h
   obtain⟨h2,h3⟩:=this oM h;rw[h2,h3]
   constructor
   ·exact decide_eq_decide.2 ⟨fun _=>oM,fun _=>oM⟩
   ·omega
  ·constructor
   ·exact (decide_eq_false oM).symm
   ·show n+1=_;omega
theorem wk_sizeL:∀(ks:List Xp) (n:Int),0≤n→n≤60→(wkL szO szN ks n).1=decide (n+cntXL ks≤60)∧(wkL szO szN ks n).2=min (n+cntXL ks) 61
 | [],n,h0,h1=>by
  refine⟨(decide_eq_true (by simp only[cntXL];omega)).symm,?_⟩
  simp only[wkL,cntXL];omega
 |k::ks,n,h0,h1=>by
  obtain⟨h2,h3⟩:=wk_size k n h0 h1;have ih:=wk_sizeL ks
  simp only[wkL,cntXL]
  rw[h2]
  split
  ·rename_i h
   rw[decide_eq_true_eq]at h
   obtain⟨h4,h5⟩:=ih (wkS szO szN k n).2 (by rw[h3];omega) (by rw[h3];omega);rw[h4,h5,h3]
   constructor
   ·exact decide_eq_decide.2 ⟨fun _=>oM,fun _=>oM⟩
   ·omega
  ·rename_i h
   rw[decide_eq_true_eq]at h
   constructor
   ·exact (decide_eq_false oM).symm
   ·show (wkS _ _ k n).2=_;rw[h3];omega
end
theorem d2r (x:Xp):c7U x=min ((cntX x:Nat):Int) 61:=by
 have:=(wk_size x 0 (Int.le_refl _) oM).2;unfold c7U;rw[this];omega
def c7I:List ByteArray:=[⟨#[116,114,117,101]⟩,⟨#[110,111,116]⟩,⟨#[97,110,100]⟩,⟨#[111,114]⟩,⟨#[108,105,109,105,116]⟩,⟨#[111,118,101,114]⟩,⟨#[104,97,115]⟩,⟨#[115,108,111,116]⟩,⟨#[97,108,108]⟩,⟨#[97,110,121]⟩,⟨#[97,116]⟩]
def b3y (n low:Int):Bool:=decide (n≥low)&&decide (n≤9999999)
def a3E (x:Xp):Option (Bool×Bool×ByteArray×Int×Int×Bool):=
 if x.op=1 then some (decide ((x.kids.length:Int)=0),false,⟨#[]⟩,0,0,true)
 else if x.op=2 then some (decide ((x.kids.length:Int)=1),false,⟨#[]⟩,0,0,true)
 else if x.op=3∨x.op=4 then some (decide ((x.kids.length:Int)>1),false,⟨#[]⟩,0,0,true)
 else if x.op=5 then some (decide ((x.kids.length:Int)=0),true,⟨#[]⟩,x.n,x.extra,b3y x.n 0&&b3y x.extra 0)
 else if x.op=6 then some (decide ((x.kids.length:Int)=0),true,⟨#[]⟩,x.n,0,b3y x.n 0)
 else if x.op=7 then some (decide ((x.kids.length:Int)=0),true,x.value,0,0,(!decide (x.value=⟨#[]⟩)&&decide (((x.value.size:Nat):Int)≤200)) && !decide (x.name∈c7I))
 else if x.op=8 then some (decide ((x.kids.length:Int)=0),true,⟨#[]⟩,0,0,true)
 else if x.op=9 then some (decide ((x.kids.length:Int)=0),true,x.value,0,0,a1p x.value)
 else if x.op=10∨x.op=11 then some (decide ((x.kids.length:Int)=1),true,⟨#[]⟩,0,0,true)
 else if x.op=12 then some (decide ((x.kids.length:Int)=0),true,⟨#[]⟩,x.n,0,b3y x.n 1)
 else none
def b0L (x:Xp) (q:Bool×Bool×ByteArray×Int×Int×Bool):Bool:=
 (((((if q.2.1 then q.2.2.2.2.2&&a1p x.name else q.2.2.2.2.2)&&q.1)&&decide ((if q.2.1 then x.name else ⟨#[]⟩)=x.name))&&decide (q.2.2.1=x.value))&&decide (q.2.2.2.1=x.n))&&decide (q.2.2.2.2.1=x.extra)
def a4w (x:Xp):Bool:=match a3E x with|none=>false|some q=>b0L x q
section
variable {x:Xp}
theorem a2E {q:Bool×Bool×ByteArray×Int×Int×Bool} (h:a3E x=some q):a4w x=b0L x q:=by unfold a4w;rw[h]
theorem c0i (h:a3E x=none):a4w x=false:=by unfold a4w;rw[h]
theorem d1m (h:x.op=1):a3E x=some (decide ((x.kids.length:Int)=0),false,⟨#[]⟩,0,0,true):=by unfold a3E;rw[if_pos h]
theorem c3a (h:x.op=2):a3E x=some (decide ((x.kids.length:Int)=1),false,⟨#[]⟩,0,0,true):=by unfold a3E;rw[if_neg oM,if_pos h]
theorem d1n (h:x.op=3∨x.op=4):a3E x=some (decide ((x.kids.length:Int)>1),false,⟨#[]⟩,0,0,true):=by unfold a3E;rw[if_neg oM,if_neg oM,if_pos h]
theorem b6u (h:x.op=5):a3E x=some (decide ((x.kids.length:Int)=0),true,⟨#[]⟩,x.n,x.extra,b3y x.n 0&&b3y x.extra 0):=by
 unfold a3E;rw[if_neg oM,if_neg oM,if_neg oM,if_pos h]
theorem c3b (h:x.op=6):a3E x=some (decide ((x.kids.length:Int)=0),true,⟨#[]⟩,x.n,0,b3y x.n 0):=by
 unfold a3E;rw[if_neg oM,if_neg oM,if_neg oM,if_neg oM,if_pos h]
theorem b6v (h:x.op=7):a3E x=some (decide ((x.kids.length:Int)=0),true,x.value,0,0,(!decide (x.value=⟨#[]⟩)&&decide (((x.value.size:Nat):Int)≤200)) && !decide (x.name∈c7I)):=by
 unfold a3E;rw[if_neg oM,if_neg oM,if_neg oM,if_neg oM,if_neg oM,if_pos h]
theorem d1o (h:x.op=8):a3E x=some (decide ((x.kids.length:Int)=0),true,⟨#[]⟩,0,0,true):=by
 unfold a3E;rw[if_neg oM,if_neg oM,if_neg oM,if_neg oM,if_neg oM,if_neg oM,if_pos h]
theorem d1p (h:x.op=9):a3E x=some (decide ((x.kids.length:Int)=0),true,x.value,0,0,a1p x.value):=by
 unfold a3E;rw[if_neg oM,if_neg oM,if_neg oM,if_neg oM,if_neg oM,if_neg oM,if_neg oM,if_pos h]
theorem b8x (h:x.op=10∨x.op=11):a3E x=some (decide ((x.kids.length:Int)=1),true,⟨#[]⟩,0,0,true):=by
 unfold a3E;rw[if_neg oM,if_neg oM,if_neg oM,if_neg oM,if_neg oM,if_neg oM,if_neg oM,if_neg oM,if_pos h]
theorem c6P (h:x.op=12):a3E x=some (decide ((x.kids.length:Int)=0),true,⟨#[]⟩,x.n,0,b3y x.n 1):=by
 unfold a3E;rw[if_neg oM,if_neg oM,if_neg oM,if_neg oM,if_neg oM,if_neg oM,if_neg oM,if_neg oM,if_neg oM,if_pos h]
theorem c6Q (h:x.op<1∨x.op>12):a3E x=none:=by
 unfold a3E;rw[if_neg oM,if_neg oM,if_neg oM,if_neg oM,if_neg oM,if_neg oM,if_neg oM,if_neg oM,if_neg oM,if_neg oM]
theorem OkXp.kid (h:OkXp x) {k:Xp} (hk:k∈x.kids):OkXp k:=by cases h with|mk _ _ _ _ _ h3=>exact h3 k hk
theorem OkXp.size (h:OkXp x):x.name.size≤9223372036854775807∧x.value.size≤9223372036854775807:=by cases h with|mk _ _ _ h5 h6 _=>exact⟨h5,h6⟩
end
structure Rul where
 name:ByteArray
 kind:ByteArray
 cond:Xp
def Rul.cs (r:Rul) (s:Value):List Value:=[.string r.name,.string r.kind,ci r.cond.op,.string r.cond.name,.string r.cond.value,ci r.cond.n,ci r.cond.extra,s]
instance:Enc Rul where
 k:=8
 rd I vs r:=∃s,vs=r.cs s∧RdS I s r.cond.kids
 len h:=by obtain⟨s,rfl,_⟩:=h;rfl
 mono hI h:=by obtain⟨s,rfl,h⟩:=h;exact⟨s,rfl,h.le hI⟩
 one h:=by obtain⟨s,rfl,A,c,rfl,_⟩:=h;rfl
def b2J (r:Rul):Prop:=r.name.size≤9223372036854775807∧r.kind.size≤9223372036854775807∧OkXp r.cond
theorem a8V {I:IMap} {s:Value} {x:Xp} (h:RdS I s x.kids):XpRd I (x.cs s) x:=by cases x;exact xp_in _ _ _ _ _ h
def b2F (x:Xp):Bool:=decide (c7U x≤60)&&allX a4w x
def a5G (r:Rul):Bool:=(a1p r.name&&a1p r.kind)&&b2F r.cond
section
variable {P:Program} {f:FuncId} {args:Array Value} {I:IMap} {r:Res}
theorem FnG.of_V {v:Value} (h:FnV P f args I v):FnG P f args I r fun u J r'=>u=v∧r'=r:=
 ⟨fun w m=>(h.go w (Mem.call (Hc:=[]) (H0:=[r]) m)).mono fun _ _ ⟨u,I',H',he,hm,hq⟩=>by
  obtain⟨rfl,rfl,rfl⟩:=hq
  exact⟨_,_,_,he,Mem.back (Hc:=[]) (H0:=[r]) m hm,r,rfl,rfl,rfl⟩⟩
end
end Go.Sx
set_option linter.all false
namespace Go.Sx
open Go
section
variable {P:Program} {n:Sz} {E:Ent} {I:IMap} {L:LL} {H:List Res}
variable {d ty:Nat} {pos:String} {af:Array Edge} {tx tyy:Nat} {x y:Operand}
end
def a5z (ch:List Int) (a:Nat):List Int:=ch.mapIdx fun i k=>if a.testBit i=true then -1 else k
theorem a4y (ch:List Int) (a:Nat):(a5z ch a).length=ch.length:=by simp[a5z]
theorem b6l {l:List Evt} {e:Evt} {m i:Nat} (hq:∀j x,j<m→l[j]? = some x→decide (x=e)=false) (hi:i≤m):hit id (l.take i) e=false:=by
 rw[c8Y,List.any_eq_false];intro x hx;obtain⟨j,hj,rfl⟩:=List.getElem_of_mem hx;rw[List.length_take]at hj
 rw[List.getElem_take]
 simpa using hq j _ oM (List.getElem?_eq_getElem oM)
theorem b4C {l:List Evt} {e:Evt} {m i:Nat} (hm:m<i) (hl:m<l.length) (h:decide (l[m]=e)=true):hit id (l.take i) e=true:=by
 rw[c8Y,List.any_eq_true];exact⟨l[m],List.mem_iff_getElem.2 ⟨m,by rw[List.length_take];omega,List.getElem_take⟩,h⟩
def c8V (l:List Rep) (n:Int):Bool:=a3v (fun _ r=>c5X r.options 6) l l.length&&decide (((l.length:Nat):Int)≤n)
def d0J (c:List Kind) (l:List Rep):Bool:=a1I c&&a3v (fun _ r=>a0g r) l l.length
theorem b6d {l:List Rep} {n:Int} (h:c8V l n=true):(∀r∈l,∀e∈r.options,SmE e)∧((l.length:Nat):Int)≤n:=by
 simp only[c8V,Bool.and_eq_true,decide_eq_true_eq]at h
 refine⟨fun r hr=>?_,h.2⟩;obtain⟨_,h1⟩:=a3P h.1 hr;exact (d0x h1).1
end Go.Sx
set_option linter.all false
namespace Go.Sx
open Go
theorem a5S {r:Rep} (h:a0g r=true):1≤chs r:=by
 have:=a3g h
 simp only[chs,h,Bool.true_eq_false,if_false]
 split<;>omega
theorem c5u {f:Rep→Int→Bool} {l:List Rep} {ch:List Int} (h:∀i (h1:i<l.length) (h2:i<ch.length),f l[i] ch[i]=true) (hl:ch.length=l.length):a8o f l ch l.length=true:=by
 rw[a8o,List.all_eq_true];intro i hi;have hi:=List.mem_range.1 hi;rw[a3l hi oM];exact h i hi oM
theorem a6t {c:List Kind} {l:List Rep} {ch:List Int} {n:Int} (hc:a1I c=true) (hl:ch.length=l.length) (h:∀i (h1:i<l.length) (h2:i<ch.length),chs l[i]≠0∧n≤ch[i]∧ch[i]<chs l[i]):a1L c l ch n=true:=by
 simp only[a1L,hc,Bool.and_eq_true]
 refine⟨by simp[hl],c5u (fun i h1 h2=>?_) hl⟩;obtain⟨a,b,d⟩:=h i h1 h2
 simp only[a8W,Bool.not_eq_true',Bool.or_eq_false_iff,decide_eq_false_iff_not]
 omega
theorem a4p {c:List Kind} {l:List Rep} {ch:List Int} {n:Int} (h:a1L c l ch n=true) {i:Nat} (h1:i<l.length) (h2:i<ch.length):chs l[i]≠0∧n≤ch[i]∧ch[i]<chs l[i]:=by
 simp only[a1L,Bool.and_eq_true]at h
 have:=b7u h.2 h1 h1 h2
 simp only[a8W,Bool.not_eq_true',Bool.or_eq_false_iff,decide_eq_false_iff_not]at this
 omega
theorem b0x {c:List Kind} {l:List Rep} {ch:List Int} {n:Int} (h:a1L c l ch n=true):a1I c=true:=by
 simp only[a1L,Bool.and_eq_true,Bool.not_eq_true',Bool.or_eq_false_iff,Bool.not_eq_false']at h
 exact h.1.1
theorem a6Y {ch:List Int} {a i:Nat} (h:i<(a5z ch a).length):(a5z ch a)[i]=if a.testBit i=true then -1 else ch[i]'(by simpa[a5z]using h):=by simp[a5z]
theorem given_open {c:List Kind} {l:List Rep} {ch:List Int} (h:a1L c l ch 0=true) (a:Nat):a1L c l (a5z ch a) (-1)=true:=by
 have hl:=(a3o h).1;refine a6t (b0x h) (by rw[a4y,hl]) fun i h1 h2=>?_
 have:=a4p h h1 (by rw[a4y]at h2;exact h2);rw[a6Y]
 split<;>omega
theorem b9P {c:List Kind} {l:List Rep} {ch:List Int} (h:a1L c l ch 0=true):a1L c l ch (-1)=true:=by
 refine a6t (b0x h) (a3o h).1 fun i h1 h2=>?_
 have:=a4p h h1 h2
 omega
theorem a9x:∀(l:List Int) (a:Int),l.foldl (fun a d=>if d<a then d else a) a≤a∧∀d∈l,l.foldl (fun a d=>if d<a then d else a) a≤d
 | [],a=>⟨Int.le_refl _,fun d h=>by cases h⟩
 |x::r,a=>by
  obtain⟨h1,h2⟩:=a9x r (if x<a then x else a);rw[List.foldl_cons];refine⟨Int.le_trans h1 (by split<;>omega),fun d hd=>?_⟩
  rcases List.mem_cons.1 hd with rfl|hd
  ·exact Int.le_trans h1 (by split<;>omega)
  ·exact h2 d hd
theorem b8g:∀(l:List Int) (a m:Int),m≤a→(∀d∈l,m≤d)→m≤l.foldl (fun a d=>if d<a then d else a) a
 | [],a,m,h,_=>h
 |x::r,a,m,h,hl=>by
  rw[List.foldl_cons];exact b8g r _ m (by have:=hl x (by simp);split<;>omega) fun d hd=>hl d (by simp[hd])
theorem a9z {l:List Rep} {ch:List Int} (hl:ch.length=l.length) {d:Int}:d∈a1l l ch l.length↔∃i,∃(h1:i<l.length),∃(h2:i<ch.length),ch[i]<0∧∃e∈l[i].options,e.day=d:=by
 rw[a1l,List.mem_flatMap]
 constructor
 ·rintro⟨i,hi,hd⟩;have hi:=List.mem_range.1 hi;rw[a3l hi oM]at hd
  simp only[Option.getD_some]at hd
  split at hd
  ·rename_i hc
   obtain⟨e,he,rfl⟩:=List.mem_map.1 hd;exact⟨i,hi,oM,hc,e,he,rfl⟩
  ·cases hd
 ·rintro⟨i,h1,h2,hc,e,he,rfl⟩;refine⟨i,List.mem_range.2 h1,?_⟩;rw[a3l h1 h2]
  simp only[Option.getD_some,if_pos hc]
  exact List.mem_map.2 ⟨e,he,rfl⟩
theorem c7l {L1 L2:Int} {l:List Rep} {ch1 ch2:List Int} {i:Nat} (h1:i<l.length) (h2:i<ch1.length) (h3:i<ch2.length) (h:a5A L1 l[i] ch1[i]=(a5A L2 l[i] ch2[i]).filter fun e=>decide (e.day<L1)) :
  pkd L1 l ch1 i=(pkd L2 l ch2 i).filter fun p=>decide (p.e.day<L1):=by
 unfold pkd;rw[a3l h1 h2,a3l h1 h3,h]
 cases hq:a5A L2 l[i] ch2[i]with
 |none=>rfl
 |some e=>
  simp only[Option.join_some,Option.filter_some]
  by_cases hd:e.day<L1
  ·simp only[hd,decide_true,if_true]
   split
   ·simp[Option.filter,hd]
   ·rfl
  ·simp only[hd,decide_false,Bool.false_eq_true,if_false]
   split
   ·simp[Option.filter,hd]
   ·rfl
theorem c3G {L1 L2:Int} {l:List Rep} {ch1 ch2:List Int} (hl1:ch1.length=l.length) (hl2:ch2.length=l.length) (h:∀i (h1:i<l.length) (h2:i<ch1.length) (h3:i<ch2.length),a5A L1 l[i] ch1[i]=(a5A L2 l[i] ch2[i]).filter fun e=>decide (e.day<L1)) :
  ∀n,n≤l.length→a3j L1 l ch1 n=(a3j L2 l ch2 n).filter fun p=>decide (p.e.day<L1):=by
 intro n
 induction n with
 |zero=>intro _;rfl
 |succ n ih=>
  intro hn;rw[a7O,a7O,List.filter_append,←ih oM,c7l oM oM oM (h n oM oM oM)]
  congr 1
  cases pkd L2 l ch2 n with
  |none=>rfl
  |some p=>by_cases hp:p.e.day<L1<;>simp[Option.filter,hp]
theorem b5v {α:Type} [Day α] (L:Int):∀{l:List α},b9r l→l=l.filter (fun x=>decide (Day.day x<L))++l.filter (fun x=>!decide (Day.day x<L))
 | [],_=>rfl
 |x::r,h=>by
  have h':=List.pairwise_cons.1 h
  by_cases hx:Day.day x<L
  ·simp only[List.filter_cons,hx,decide_true,if_true,Bool.not_true,Bool.false_eq_true,if_false,List.cons_append]
   rw[←b5v L h'.2]
  ·have h0:r.filter (fun x=>decide (Day.day x<L))=[]:=by
    rw[List.filter_eq_nil_iff];intro y hy;have:=h'.1 y hy
    simp;omega
   have h1:r.filter (fun x=>!decide (Day.day x<L))=r:=by
    rw[List.filter_eq_self];intro y hy;have:=h'.1 y hy
    simp;omega
   simp[List.filter_cons,hx,h0,h1]
theorem b6k {c:List Kind} {l:List Rep} {ch1 ch2:List Int} {L1 L2:Int} (h:a3j L1 l ch1 l.length=(a3j L2 l ch2 l.length).filter fun p=>decide (p.e.day<L1)) (hf:(a5w c l ch1 L1).2≠0):(a5w c l ch2 L2).2≠0:=by
 unfold a5w at hf ⊢
 have e1:a1N (a3j L1 l ch1 l.length)=(a1N (a3j L2 l ch2 l.length)).filter (fun p=>decide (Day.day p<L1)):=by
  rw[h,b2w];rfl
 have e2:=b5v L1 (a7Y (a3j L2 l ch2 l.length));rw[e2,←e1,b2a]
 have e3:b1g c [] ((a1N (a3j L1 l ch1 l.length)).map Pkd.e)=none:=by
  have:=b4A c (a1N (a3j L1 l ch1 l.length)) [];rw[decide_eq_false hf]at this
  cases hr:b1g c [] ((a1N (a3j L1 l ch1 l.length)).map Pkd.e) with
  |none=>rfl
  |some s=>rw[hr]at this;cases this
 rw[e3];exact hf
theorem c7a {L:Int} {r:Rep} {k:Int} {e:Evt} (h:a5A L r k=some e):e∈r.options:=by
 unfold a5A at h
 split at h
 ·split at h
  ·rename_i x hx
   split at h
   ·cases h;exact List.mem_of_getElem? hx
   ·cases h
  ·cases h
 ·cases h
theorem c6Z {L1 L2:Int} (hL:L1≤L2) (r:Rep) (k:Int):a5A L1 r k=(a5A L2 r k).filter fun e=>decide (e.day<L1):=by
 unfold a5A
 split
 ·cases r.options[k.toNat]? with
  |none=>rfl
  |some e=>
   simp only
   by_cases h:e.day<L1
   ·rw[if_pos h,if_pos oM];simp[Option.filter,h]
   ·rw[if_neg h]
    split
    ·simp[Option.filter,h]
    ·rfl
 ·rfl
theorem b9J {c:List Kind} {l:List Rep} {ch:List Int} {a b:Nat} (hg:a1L c l ch 0=true) (hs:∀i,b.testBit i=true→a.testBit i=true) (h:a1B c l (a5z ch a)=true):a1B c l (a5z ch b)=true:=by
 have hl:=(a3o hg).1;have ga:=given_open hg a;have gb:=given_open hg b;have la:(a5z ch a).length=l.length:=by rw[a4y,hl]
 have lb:(a5z ch b).length=l.length:=by rw[a4y,hl]
 unfold a1B at h ⊢
 rw[if_neg (by rw[ga];decide)]at h
 rw[if_neg (by rw[gb];decide)]
 simp only[Bool.not_eq_true',decide_eq_false_iff_not]at h ⊢
 have hL:a5I (a1l l (a5z ch a) l.length)≤a5I (a1l l (a5z ch b) l.length):=by
  refine b8g _ _ _ (a9x _ _).1 fun d hd=>?_
  refine (a9x _ _).2 d ?_;rw[a9z lb]at hd
  obtain⟨i,h1,h2,hc,e,he,rfl⟩:=hd;refine (a9z la).2 ⟨i,h1,oM,?_,e,he,rfl⟩;rw[a6Y]at hc ⊢
  have h0:=a4p hg h1 oM
  split at hc
  ·rename_i hb
   rw[if_pos (hs i hb)];omega
  ·omega
 refine b6k (ch1:=a5z ch a) (c3G la lb (fun i h1 h2 h3=>?_) _ (Nat.le_refl _)) h;rw[a6Y,a6Y]
 by_cases ha:a.testBit i=true
 ·rw[if_pos ha]
  by_cases hb:b.testBit i=true
  ·rw[if_pos hb];rfl
  ·rw[if_neg hb]
   cases hq:a5A (a5I (a1l l (a5z ch b) l.length)) l[i] (ch[i]'oM) with
   |none=>rfl
   |some e=>
    have h4:a5I (a1l l (a5z ch a) l.length)≤e.day:=by
     refine (a9x _ _).2 _ ((a9z la).2 ⟨i,h1,h2,?_,e,c7a hq,rfl⟩);rw[a6Y,if_pos ha];omega
    have h5:¬e.day<a5I (a1l l (a5z ch a) l.length):=oM
    simp[a5A,Option.filter,h5]
 ·have hb:¬b.testBit i=true:=fun hb=>ha (hs i hb)
  rw[if_neg ha,if_neg hb];exact c6Z hL _ _
theorem c3j (ch:List Int):a5z ch 0=ch:=by
 refine List.ext_getElem (a4y ch 0) fun i h1 h2=>?_
 rw[a6Y];simp
theorem b2Y {c:List Kind} {l:List Rep} {ch:List Int} (hg:a1L c l ch 0=true):a1B c l ch = !isF c l ch:=by
 have hl:=(a3o hg).1
 have h0:a1l l ch l.length=[]:=by
  rw[List.eq_nil_iff_forall_not_mem];intro d hd;obtain⟨i,h1,h2,hc,_⟩:=(a9z hl).1 hd;have:=a4p hg h1 h2
  omega
 rw[a1B,if_neg (by rw[b9P hg];decide),isF,b0q,if_neg (by rw[hg];decide),h0]
 rfl
end Go.Sx
set_option linter.all false
namespace Go.Sx
open Go
theorem d7v {c:List Kind} {l:List Rep} {ch:List Int} (hg:a1L c l ch 0=false):isF c l ch=false:=by
 rw[isF,b0q,if_pos hg];rfl
end Go.Sx
set_option linter.all false
namespace Go.Sx
open Go
theorem b8s {e:Evt} (hv:a1D e=true) (s:ByteArray):s∈a4b e↔s∈a1F e:=by
 unfold a4b a1F;rw[if_neg (by simp[hv])]
 split
 ·unfold d7G d7E
  cases h1:sLt e.part e.into with
  |true=>simp
  |false=>
   by_cases h2:e.part=e.into
   ·rw[h2];simp
   ·simp[h2]
    constructor
    ·rintro (h|h)
     ·exact .inr h
     ·exact .inl h
    ·rintro (h|h)
     ·exact .inr h
     ·exact .inl h
 ·rfl
end Go.Sx
set_option linter.all false
namespace Go.Sx
open Go
structure Spl (D:ByteArray→Bool) (s a b:List Part):Prop where
 is:Inc Part.name s
 ia:Inc Part.name a
 ib:Inc Part.name b
 mem:∀x,x∈s↔x∈a∨x∈b
 na:∀x∈a,D x.name=true∧(x.into=a0M∨D x.into=true)
 nb:∀x∈b,D x.name=false∧(x.into=a0M∨D x.into=false)
theorem Spl.nil (D:ByteArray→Bool):Spl D [] [] []:=⟨.nil,.nil,.nil,by simp,by simp,by simp⟩
theorem Spl.turn {D:ByteArray→Bool} {s a b:List Part} (h:Spl D s a b):Spl (fun n=>!D n) s b a:=
 ⟨h.is,h.ib,h.ia,fun x=>by rw[h.mem x];exact Or.comm,fun x hx=>by simpa using h.nb x hx,fun x hx=>by simpa using h.na x hx⟩
theorem Spl.find {D:ByteArray→Bool} {s a b:List Part} (h:Spl D s a b) {n:ByteArray} (hn:D n=true):a0e s n=a0e a n:=by
 refine Option.ext fun x=>?_
 show s.find? _=some x↔a.find? _=some x
 rw[a1E h.is,a1E h.ia,h.mem x]
 constructor
 ·rintro⟨h1|h1,h2⟩
  ·exact⟨h1,h2⟩
  ·have:=(h.nb x h1).1;rw[h2,hn]at this;cases this
 ·rintro⟨h1,h2⟩;exact⟨.inl h1,h2⟩
def Dev (D:ByteArray→Bool) (e:Evt):Prop:=∀z∈a1F e,D z=true
theorem Dev.part {D:ByteArray→Bool} {e:Evt} (h:Dev D e):D e.part=true:=h _ (by unfold a1F;split<;>simp)
theorem Dev.into {D:ByteArray→Bool} {e:Evt} (h:Dev D e) (ho:e.op=2):D e.into=true:=h _ (by simp[a1F,ho])
theorem Spl.taken {D:ByteArray→Bool} {s a b:List Part} (h:Spl D s a b) {e:Evt} (hn:D e.into=true) (h0:e.into≠a0M):a0P s e=a0P a e:=by
 unfold a0P;rw[Bool.eq_iff_iff,List.any_eq_true,List.any_eq_true]
 constructor
 ·rintro⟨x,hx,hp⟩
  rcases (h.mem x).1 hx with h1|h1
  ·exact⟨x,h1,hp⟩
  ·have hi:x.into=e.into:=by simp at hp;exact hp.1
   rcases (h.nb x h1).2 with h2|h2
   ·exact absurd (hi.symm.trans h2) h0
   ·rw[hi,hn]at h2;cases h2
 ·rintro⟨x,hx,hp⟩;exact⟨x,(h.mem x).2 (.inl hx),hp⟩
theorem Spl.holds {D:ByteArray→Bool} {s a b:List Part} (h:Spl D s a b) {n:ByteArray} (hn:D n=true) (h0:n≠a0M):a1h s n=a1h a n:=by
 unfold a1h;rw[Bool.eq_iff_iff,List.any_eq_true,List.any_eq_true]
 constructor
 ·rintro⟨x,hx,hp⟩
  rcases (h.mem x).1 hx with h1|h1
  ·exact⟨x,h1,hp⟩
  ·have hi:x.into=n:=by simpa using hp
   rcases (h.nb x h1).2 with h2|h2
   ·exact absurd (hi.symm.trans h2) h0
   ·rw[hi,hn]at h2;cases h2
 ·rintro⟨x,hx,hp⟩;exact⟨x,(h.mem x).2 (.inl hx),hp⟩
theorem Spl.step {c:List Kind} {D:ByteArray→Bool} {s a b:List Part} (h:Spl D s a b) {e:Evt} (he:Dev D e) (vs:VS c s) (va:VS c a) (ls:s.length<20000) (la:a.length<20000) (p':Part):Step c s e p'↔Step c a e p':=by
 have f1:=h.find he.part
 constructor
 ·intro hs;obtain⟨v1,v2,v3,v4,v5⟩:=a2C hs.ve;refine⟨va,hs.ve,?_⟩
  rcases hs.how with ⟨h1,h2,h3,h4,h5⟩|⟨p,h1,h2,h3⟩
  ·exact .inl ⟨h1,by rw[←f1];exact h2,h3,oM,h5⟩
  ·refine .inr ⟨p,by rw[←f1];exact h1,h2,?_⟩;have hpn:p.name=e.part:=((a1E h.is).1 h1).2
   rcases h3 with ⟨o1,q,o2,o3,o4,o5,o6,o7,o8⟩|h3|h3|h3|h3|⟨o1,o2,o3,o4⟩
   ·exact .inl ⟨o1,q,by rw[←h.find (he.into o1)];exact o2,o3,o4,o5,o6,by rw[←h.taken (he.into o1) (a4V (v4 o1).1)];exact o7,o8⟩
   ·exact .inr (.inl h3)
   ·exact .inr (.inr (.inl h3))
   ·exact .inr (.inr (.inr (.inl h3)))
   ·exact .inr (.inr (.inr (.inr (.inl h3))))
   ·exact .inr (.inr (.inr (.inr (.inr ⟨o1,o2,by rw[←h.holds (by rw[hpn];exact he.part) (by rw[hpn];exact a4V v1)];exact o3,o4⟩))))
 ·intro hs;obtain⟨v1,v2,v3,v4,v5⟩:=a2C hs.ve;refine⟨vs,hs.ve,?_⟩
  rcases hs.how with ⟨h1,h2,h3,h4,h5⟩|⟨p,h1,h2,h3⟩
  ·exact .inl ⟨h1,by rw[f1];exact h2,h3,oM,h5⟩
  ·refine .inr ⟨p,by rw[f1];exact h1,h2,?_⟩;have hpn:p.name=e.part:=((a1E h.ia).1 h1).2
   rcases h3 with ⟨o1,q,o2,o3,o4,o5,o6,o7,o8⟩|h3|h3|h3|h3|⟨o1,o2,o3,o4⟩
   ·exact .inl ⟨o1,q,by rw[h.find (he.into o1)];exact o2,o3,o4,o5,o6,by rw[h.taken (he.into o1) (a4V (v4 o1).1)];exact o7,o8⟩
   ·exact .inr (.inl h3)
   ·exact .inr (.inr (.inl h3))
   ·exact .inr (.inr (.inr (.inl h3)))
   ·exact .inr (.inr (.inr (.inr (.inl h3))))
   ·exact .inr (.inr (.inr (.inr (.inr ⟨o1,o2,by rw[h.holds (by rw[hpn];exact he.part) (by rw[hpn];exact a4V v1)];exact o3,o4⟩))))
theorem Spl.put {c:List Kind} {D:ByteArray→Bool} {s a b:List Part} (h:Spl D s a b) {e:Evt} (he:Dev D e) {p':Part} (hs:Step c a e p'):Spl D (a5a Part.name s p') (a5a Part.name a p') b:=by
 have hn:=hs.name;refine⟨a4j _ h.is,a4j _ h.ia,h.ib,fun x=>?_,fun x hx=>?_,h.nb⟩
 ·rw[a2X h.is,a2X h.ia,h.mem x,hn]
  constructor
  ·rintro (h1|⟨h1|h1,h2⟩)
   ·exact .inl (.inl h1)
   ·exact .inl (.inr ⟨h1,h2⟩)
   ·exact .inr h1
  ·rintro ((h1|⟨h1,h2⟩)|h1)
   ·exact .inl h1
   ·exact .inr ⟨.inl h1,h2⟩
   ·refine .inr ⟨.inr h1,fun h2=>?_⟩;have:=(h.nb x h1).1;rw[h2,he.part]at this;cases this
 ·rcases (a2X h.ia).1 hx with rfl|⟨h1,_⟩
  ·refine⟨by rw[hn];exact he.part,?_⟩
   rcases hs.how with ⟨_,_,_,_,rfl⟩|⟨p,h1,h2,h3⟩
   ·exact .inl rfl
   ·have hp:=h.na p ((a1E h.ia).1 h1).1
    rcases h3 with ⟨o1,q,o2,o3,o4,o5,o6,o7,rfl⟩|⟨_,_,rfl⟩|⟨_,_,rfl⟩|⟨_,rfl⟩|⟨_,_,rfl⟩|⟨_,_,_,rfl⟩
    ·exact .inr (he.into o1)
    ·exact .inl rfl
    ·exact hp.2
    ·exact hp.2
    ·exact hp.2
    ·exact hp.2
  ·exact h.na x h1
def Seen (kvs:List (ByteArray×Value)) (p:ByteArray→Bool):Prop:=∀s,(a4h kvs s).getD (.bool false) = .bool (p s)
theorem Seen.nil {p:ByteArray→Bool} (h:∀s,p s=false):Seen [] p:=fun s=>by rw[h s];rfl
theorem Seen.put {kvs:List (ByteArray×Value)} {p q:ByteArray→Bool} (h:Seen kvs p) (k:ByteArray) (hq:∀s,q s=(p s||decide (k=s))):Seen (a4I kvs k (.bool true)) q:=fun s=>by
 rw[a7C,hq s]
 by_cases hk:k=s
 ·simp[hk]
 ·simp[hk,h s]
theorem Seen.congr {kvs:List (ByteArray×Value)} {p q:ByteArray→Bool} (h:Seen kvs p) (hq:∀s,q s=p s):Seen kvs q:=fun s=>by rw[h s,hq s]
end Go.Sx
set_option linter.all false
namespace Go.Sx
open Go
def up (F:List Nat) (i:Nat):Nat:=F.getD i i
def rt (F:List Nat) (i:Nat):Nat:=if h:up F i<i then rt F (up F i) else i
termination_by i
section
variable {F G:List Nat} {i j x:Nat}
theorem a3J (h:up F i<i):rt F i=rt F (up F i):=by rw[rt,dif_pos h]
theorem a3s (h:¬up F i<i):rt F i=i:=by rw[rt,dif_neg h]
theorem d2d (F:List Nat) (i:Nat):rt F i≤i:=by
 induction i using Nat.strongRecOn with
 |ind i ih=>
  by_cases h:up F i<i
  ·rw[a3J h];exact Nat.le_trans (ih _ h) (Nat.le_of_lt h)
  ·rw[a3s h];exact Nat.le_refl _
theorem b6U (F:List Nat) (i:Nat):¬up F (rt F i)<rt F i:=by
 induction i using Nat.strongRecOn with
 |ind i ih=>
  by_cases h:up F i<i
  ·rw[a3J h];exact ih _ h
  ·rw[a3s h];exact h
theorem b6T (F:List Nat) (i:Nat):rt F (rt F i)=rt F i:=a3s (b6U F i)
theorem c7P (h:∀j,up F j=up G j) (i:Nat):rt F i=rt G i:=by
 induction i using Nat.strongRecOn with
 |ind i ih=>
  by_cases h1:up F i<i
  ·rw[a3J h1,a3J (F:=G) (by rw[←h];exact h1),←h i];exact ih _ h1
  ·rw[a3s h1,a3s (F:=G) (by rw[←h];exact h1)]
def Fst (F:List Nat):Prop:=∀i,up F i≤i
theorem d2J (hi:i<F.length):up F i=F[i]:=by simp[up,List.getD,hi]
theorem b2B (hi:i<F.length):up (F.set i x) j=if j=i then x else up F j:=by
 unfold up List.getD;rw[List.getElem?_set]
 by_cases h:i=j
 ·subst h;simp[hi]
 ·have h2:¬j=i:=fun e=>h e.symm
  simp[h,h2]
theorem Fst.half (h:Fst F) (hi:i<F.length):Fst (F.set i (up F (up F i)))∧∀j,rt (F.set i (up F (up F i))) j=rt F j:=by
 refine⟨fun j=>?_,fun j=>?_⟩
 ·rw[b2B hi]
  split
  ·rename_i e;subst e;exact Nat.le_trans (h _) (h _)
  ·exact h j
 ·induction j using Nat.strongRecOn with
  |ind j ih=>
   by_cases e:j=i
   ·subst e;have e1:up (F.set j (up F (up F j))) j=up F (up F j):=by rw[b2B hi,if_pos rfl]
    by_cases h1:up F j<j
    ·have h2:up F (up F j)<j:=Nat.lt_of_le_of_lt (h _) h1;rw[a3J (by rw[e1];exact h2),e1,ih _ h2,a3J h1]
     by_cases h3:up F (up F j)<up F j
     ·rw[a3J h3]
     ·have h4:up F (up F j)=up F j:=Nat.le_antisymm (h _) (Nat.not_lt.1 h3);rw[h4]
    ·have h4:up F j=j:=Nat.le_antisymm (h _) (Nat.not_lt.1 h1);rw[a3s h1,a3s (by rw[e1,h4,h4];exact Nat.lt_irrefl _)]
   ·have e1:up (F.set i (up F (up F i))) j=up F j:=by rw[b2B hi,if_neg e]
    by_cases h1:up F j<j
    ·rw[a3J (by rw[e1];exact h1),e1,ih _ h1,a3J h1]
    ·rw[a3s h1,a3s (by rw[e1];exact h1)]
theorem Fst.join {a b:Nat} (h:Fst F) (ha:rt F a=a) (hb:rt F b=b) (hab:a≤b) (hl:b<F.length):Fst (F.set b a)∧∀j,rt (F.set b a) j=if rt F j=b then a else rt F j:=by
 have ua:¬up F a<a:=by have:=b6U F a;rwa[ha]at this
 have ub:¬up F b<b:=by have:=b6U F b;rwa[hb]at this
 refine⟨fun j=>?_,fun j=>?_⟩
 ·rw[b2B hl]
  split
  ·omega
  ·exact h j
 ·induction j using Nat.strongRecOn with
  |ind j ih=>
   by_cases e:j=b
   ·subst e;have e1:up (F.set j a) j=a:=by rw[b2B hl,if_pos rfl]
    by_cases h1:a<j
    ·rw[a3J (by rw[e1];exact h1),e1,ih _ h1,ha,hb,if_pos rfl,if_neg oM]
    ·have:a=j:=oM;subst this;rw[a3s (by rw[e1];exact h1),ha,if_pos rfl]
   ·have e1:up (F.set b a) j=up F j:=by rw[b2B hl,if_neg e]
    by_cases h1:up F j<j
    ·rw[a3J (by rw[e1];exact h1),e1,ih _ h1,←a3J h1]
    ·rw[a3s h1,a3s (by rw[e1];exact h1),if_neg e]
theorem Fst.meet {a b:Nat} (h:Fst F) (ha:rt F a=a) (hb:rt F b=b) (hla:a<F.length) (hlb:b<F.length):Fst (F.set (max a b) (min a b))∧∀j,rt (F.set (max a b) (min a b)) j=if rt F j=a∨rt F j=b then min a b else rt F j:=by
 rcases Nat.le_total a b with hab|hab
 ·rw[Nat.max_eq_right hab,Nat.min_eq_left hab];obtain⟨h1,h2⟩:=h.join ha hb hab hlb;refine⟨h1,fun j=>?_⟩;rw[h2 j]
  by_cases e1:rt F j=b
  ·rw[if_pos e1,if_pos (.inr e1)]
  ·by_cases e2:rt F j=a
   ·rw[if_neg e1,if_pos (.inl e2),e2]
   ·rw[if_neg e1,if_neg (by rintro (h|h)<;>contradiction)]
 ·rw[Nat.max_eq_left hab,Nat.min_eq_right hab];obtain⟨h1,h2⟩:=h.join hb ha hab hla;refine⟨h1,fun j=>?_⟩;rw[h2 j]
  by_cases e1:rt F j=a
  ·rw[if_pos e1,if_pos (.inl e1)]
  ·by_cases e2:rt F j=b
   ·rw[if_neg e1,if_pos (.inr e2),e2]
   ·rw[if_neg e1,if_neg (by rintro (h|h)<;>contradiction)]
theorem c4C (F:List Nat) (j:Nat):up (F++[F.length]) j=up F j:=by
 unfold up List.getD
 rcases Nat.lt_or_ge j F.length with h|h
 ·rw[List.getElem?_append_left h]
 ·rw[List.getElem?_append_right h,List.getElem?_eq_none h]
  rcases Nat.eq_or_lt_of_le h with e|h2
  ·subst e;simp
  ·rw[List.getElem?_eq_none (by simp;omega)]
theorem Fst.snoc (h:Fst F):Fst (F++[F.length]):=fun j=>by rw[c4C];exact h j
theorem b6V (F:List Nat) (j:Nat):rt (F++[F.length]) j=rt F j:=c7P (c4C F) j
theorem d5B (h:F.length≤i):rt F i=i:=a3s (by unfold up List.getD;rw[List.getElem?_eq_none h];simp)
end
def nm (r:Rep) (z:ByteArray):Prop:=a0g r=true∧∃e∈r.options,z∈a1F e
theorem d1k {r:Rep} {ns:List ByteArray} (hn:a9N r ns) (z:ByteArray):z∈ns↔nm r z:=by
 rw[hn.1 z]
 constructor
 ·rintro⟨hv,e,he,h⟩;exact⟨hv,e,he,(b8s (a5p hv e he) z).1 h⟩
 ·rintro⟨hv,e,he,h⟩;exact⟨hv,e,he,(b8s (a5p hv e he) z).2 h⟩
inductive Lnk (l:List Rep):Nat→Nat→Prop
 |refl (i:Nat):Lnk l i i
 |one {i k:Nat} {z:ByteArray} (hi:i<l.length) (hk:k<l.length) (h1:nm l[i] z) (h2:nm l[k] z):Lnk l i k
 |symm {i k:Nat}:Lnk l i k→Lnk l k i
 |trans {i k m:Nat}:Lnk l i k→Lnk l k m→Lnk l i m
structure Rts (l:List Rep) (R:Nat→Nat):Prop where
 le:∀i,R i≤i
 idem:∀i,R (R i)=R i
 share:∀{i k:Nat} {z:ByteArray} (hi:i<l.length) (hk:k<l.length),nm l[i] z→nm l[k] z→R i=R k
 sound:∀i,Lnk l i (R i)
theorem Rts.lnk {l:List Rep} {R:Nat→Nat} (h:Rts l R) {i k:Nat} (hl:Lnk l i k):R i=R k:=by
 induction hl with
 |refl=>rfl
 |one hi hk h1 h2=>exact h.share hi hk h1 h2
 |symm _ ih=>exact ih.symm
 |trans _ _ h1 h2=>exact h1.trans h2
theorem Rts.uniq {l:List Rep} {R R':Nat→Nat} (h:Rts l R) (h':Rts l R'):R=R':=by
 funext i
 have h1:=h'.lnk (h.sound i);have h2:=h.lnk (h'.sound i);have h3:=h'.le (R i);have h4:=h.le (R' i)
 omega
theorem c6F {p:Nat→Prop}:∀n,p n→∃m,p m∧m≤n∧∀k,p k→m≤k:=by
 intro n
 induction n using Nat.strongRecOn with
 |ind n ih=>
  intro hn
  by_cases h:∃k,k<n∧p k
  ·obtain⟨k,hk,hp⟩:=h;obtain⟨m,h1,h2,h3⟩:=ih k hk hp;exact⟨m,h1,oM,h3⟩
  ·exact⟨n,hn,Nat.le_refl _,fun k hk=>Nat.le_of_not_lt fun h2=>h ⟨k,h2,hk⟩⟩
theorem b8P (l:List Rep):∃R,Rts l R:=by
 have h:∀i,∃m,Lnk l i m∧m≤i∧∀k,Lnk l i k→m≤k:=fun i=>c6F i (.refl i)
 refine⟨fun i=>Classical.choose (h i),?_⟩;have hs:=fun i=>(Classical.choose_spec (h i)).1
 have hle:=fun i=>(Classical.choose_spec (h i)).2.1
 have hm:=fun i=>(Classical.choose_spec (h i)).2.2
 have key:∀i k,Lnk l i k→Classical.choose (h i)=Classical.choose (h k):=fun i k hl=>by
  have h1:=hm i _ (hl.trans (hs k));have h2:=hm k _ (hl.symm.trans (hs i))
  omega
 exact⟨hle,fun i=>(key _ _ (hs i)).symm,fun hi hk h1 h2=>key _ _ (.one hi hk h1 h2),hs⟩
structure Lkd (l:List Rep) (n:Nat) (S:Nat→ByteArray→Prop) (F:List Nat) (fm:ByteArray→Option Nat):Prop where
 fst:Fst F
 len:F.length=n
 nl:n≤l.length
 lt:∀k z,S k z→k<n
 seen:∀k z,S k z→∃q,fm z=some q∧rt F q=rt F k
 own:∀z q,fm z=some q→q<n∧∃h:q<l.length,nm l[q] z
 sound:∀k,Lnk l k (rt F k)
section
variable {l:List Rep} {n i:Nat} {S S':Nat→ByteArray→Prop} {F F':List Nat} {fm:ByteArray→Option Nat} {z:ByteArray}
theorem Lkd.start:Lkd l 0 (fun _ _=>False) [] (fun _=>none):=
 ⟨fun i=>by simp[up],rfl,Nat.zero_le _,fun _ _ h=>h.elim,fun _ _ h=>h.elim,fun _ _ h=>by simp at h,fun k=>by rw[d5B (by simp)];exact .refl k⟩
theorem Lkd.congr (h:Lkd l n S F fm) (hS:∀k z,S' k z→S k z):Lkd l n S' F fm:=
 ⟨h.fst,h.len,h.nl,fun k z q=>h.lt k z (hS k z q),fun k z q=>h.seen k z (hS k z q),h.own,h.sound⟩
theorem Lkd.push (h:Lkd l n S F fm) (hn:n<l.length):Lkd l (n+1) S (F++[n]) fm:=by
 obtain rfl:=h.len;refine⟨h.fst.snoc,by simp,hn,fun k z q=>by have:=h.lt k z q;omega,fun k z q=>?_,fun z q hq=>?_,fun k=>by rw[b6V];exact h.sound k⟩
 ·obtain⟨m,h1,h2⟩:=h.seen k z q;exact⟨m,h1,by rw[b6V,b6V];exact h2⟩
 ·obtain⟨h1,h2⟩:=h.own z q hq;exact⟨oM,h2⟩
theorem Lkd.same (h:Lkd l n S F fm) (hf:Fst F') (hl:F'.length=F.length) (hr:∀j,rt F' j=rt F j):Lkd l n S F' fm:=
 ⟨hf,hl.trans h.len,h.nl,h.lt,fun k z q=>by obtain⟨m,h1,h2⟩:=h.seen k z q;exact⟨m,h1,by rw[hr,hr];exact h2⟩,h.own,fun k=>by rw[hr];exact h.sound k⟩
theorem Lkd.hit {q:Nat} (h:Lkd l n S F fm) (hi:i<n) (hz:∃h:i<l.length,nm l[i] z) (hq:fm z=some q) (hf:Fst F') (hl:F'.length=F.length) (hr:∀j,rt F' j=if rt F j=rt F q∨rt F j=rt F i then min (rt F q) (rt F i) else rt F j) :
  Lkd l n (fun k y=>S k y∨k=i∧y=z) F' fm:=by
 have hc:∀a b,rt F a=rt F b→rt F' a=rt F' b:=fun a b e=>by rw[hr,hr,e]
 refine⟨hf,hl.trans h.len,h.nl,fun k y hk=>?_,fun k y hk=>?_,h.own,fun k=>?_⟩
 ·rcases hk with hk|⟨rfl,rfl⟩
  ·exact h.lt k y hk
  ·exact hi
 ·rcases hk with hk|⟨rfl,rfl⟩
  ·obtain⟨m,h1,h2⟩:=h.seen k y hk;exact⟨m,h1,hc _ _ h2⟩
  ·exact⟨q,hq,by rw[hr,hr,if_pos (.inl rfl),if_pos (.inr rfl)]⟩
 ·rw[hr];obtain⟨_,hql,hqz⟩:=h.own z q hq;obtain⟨hil,hiz⟩:=hz;have hqi:Lnk l q i:=.one hql hil hqz hiz
  split
  ·rename_i e
   have h1:Lnk l k q:=by
    rcases e with e|e
    ·exact (h.sound k).trans (e▸(h.sound q).symm)
    ·exact ((h.sound k).trans (e▸(h.sound i).symm)).trans hqi.symm
   rcases Nat.le_total (rt F q) (rt F i) with h2|h2
   ·rw[Nat.min_eq_left h2];exact h1.trans (h.sound q)
   ·rw[Nat.min_eq_right h2];exact (h1.trans hqi).trans (h.sound i)
  ·exact h.sound k
theorem Lkd.new (h:Lkd l n S F fm) (hi:i<n) (hz:∃h:i<l.length,nm l[i] z) (hq:fm z=none):Lkd l n (fun k y=>S k y∨k=i∧y=z) F (fun y=>if z=y then some i else fm y):=by
 refine⟨h.fst,h.len,h.nl,fun k y hk=>?_,fun k y hk=>?_,fun y q hy=>?_,h.sound⟩
 ·rcases hk with hk|⟨rfl,rfl⟩
  ·exact h.lt k y hk
  ·exact hi
 ·rcases hk with hk|⟨rfl,rfl⟩
  ·obtain⟨m,h1,h2⟩:=h.seen k y hk;refine⟨m,?_,h2⟩
   show (if z=y then some i else fm y)=some m
   rw[if_neg (by rintro rfl;rw[hq]at h1;cases h1)];exact h1
  ·exact⟨k,by simp,rfl⟩
 ·split at hy
  ·rename_i e;subst e
   obtain rfl:=Option.some.inj hy;exact⟨hi,hz⟩
  ·exact h.own y q hy
theorem Lkd.done (h:Lkd l l.length S F fm) (hS:∀k z (hk:k<l.length),nm l[k] z→S k z):Rts l (rt F):=by
 refine⟨d2d F,b6T F,fun {i k z} hi hk h1 h2=>?_,h.sound⟩;obtain⟨q,e1,e2⟩:=h.seen i z (hS i z hi h1);obtain⟨q',e3,e4⟩:=h.seen k z (hS k z hk h2);rw[e1]at e3
 obtain rfl:=Option.some.inj e3;exact e2.symm.trans e4
end
def a5N (R:Nat→Nat) (n r:Nat):List Nat:=(List.range n).filter fun k=>decide (R k=r)
section
variable {R:Nat→Nat} {n r k:Nat}
theorem c6K:k∈a5N R n r↔k<n∧R k=r:=by simp[a5N]
theorem a7B:a5N R (n+1) r=if R n=r then a5N R n r++[n] else a5N R n r:=by
 unfold a5N;rw[List.range_succ,List.filter_append]
 by_cases h:R n=r<;>simp[h]
end
end Go.Sx
set_option linter.all false
namespace Go.Sx
open Go
def a1Q:List Rep→List (List Int)
 | []=>[[]]
 |r::l=>(List.range (chs r).toNat).flatMap fun (k:Nat)=>(a1Q l).map fun t=>(k:Int)::t
def a1S (c:List Kind) (l:List Rep):List (List Int):=(a1Q l).filter (isF c l)
theorem a9R:∀{l:List Rep} {t:List Int},t∈a1Q l↔t.length=l.length∧∀i (h1:i<l.length) (h2:i<t.length),0≤t[i]∧t[i]<chs l[i]
 | [],t=>by
  simp only[a1Q,List.mem_singleton,List.length_nil]
  constructor
  ·rintro rfl;exact⟨rfl,fun i h=>absurd h (Nat.not_lt_zero i)⟩
  ·rintro⟨h,_⟩;exact List.eq_nil_of_length_eq_zero h
 |r::l,t=>by
  simp only[a1Q,List.mem_flatMap,List.mem_range,List.mem_map]
  constructor
  ·rintro⟨k,hk,s,hs,rfl⟩;obtain⟨h1,h2⟩:=a9R.1 hs;refine⟨by simp[h1],fun i h3 h4=>?_⟩
   cases i with
   |zero=>simp only[List.getElem_cons_zero];omega
   |succ i=>simpa using h2 i (by simpa using h3) (by simpa using h4)
  ·rintro⟨h1,h2⟩
   cases t with
   |nil=>simp at h1
   |cons x s=>
    have h0:=h2 0 (by simp) (by simp)
    simp only[List.getElem_cons_zero]at h0
    refine⟨x.toNat,oM,s,a9R.2 ⟨by simpa using h1,fun i h3 h4=>?_⟩,by rw[Int.toNat_of_nonneg h0.1]⟩;exact h2 (i+1) (by simpa using h3) (by simpa using h4)
def d1x (rs:List Rep):List Int:=rs.map fun r=>if 1<chs r then -1 else 0
structure Mid (c:List Kind) (l:List Rep) (pre:List Int) (rs:List Rep):Prop where
 cat:a1I c=true
 pos:∀r∈l,chs r≠0
 is:∃a,l=a++rs∧pre.length=a.length∧∀i (h1:i<a.length) (h2:i<pre.length),0≤pre[i]∧pre[i]<chs a[i]
theorem b0i (r:Rep):0≤chs r:=by
 unfold chs;split
 ·omega
 ·split<;>omega
theorem Mid.next {c:List Kind} {l:List Rep} {pre:List Int} {r:Rep} {rs:List Rep} (h:Mid c l pre (r::rs)) {k:Int} (h0:0≤k) (hk:k<chs r):Mid c l (pre++[k]) rs:=by
 obtain⟨a,e1,e2,e3⟩:=h.is;refine⟨h.cat,h.pos,a++[r],by rw[e1];simp,by simp[e2],fun i h1 h2=>?_⟩
 by_cases hi:i<a.length
 ·rw[List.getElem_append_left hi,List.getElem_append_left oM];exact e3 i hi oM
 ·have:i=a.length:=by simp at h1;omega
  subst this
  simp[←e2,h0,hk]
theorem Mid.len {c:List Kind} {l:List Rep} {pre:List Int} {rs:List Rep} (h:Mid c l pre rs):pre.length+rs.length=l.length:=by
 obtain⟨a,e1,e2,_⟩:=h.is;rw[e1,List.length_append,e2]
theorem Mid.given {c:List Kind} {l:List Rep} {pre:List Int} {rs:List Rep} (h:Mid c l pre rs) {t:List Int} (ht:t.length=rs.length) {n:Int} (hn:n≤0) (hb:∀i (h1:i<rs.length) (h2:i<t.length),n≤t[i]∧t[i]<chs rs[i]):a1L c l (pre++t) n=true:=by
 obtain⟨a,e1,e2,e3⟩:=h.is;refine a6t h.cat (by rw[List.length_append,ht];exact h.len) fun i h1 h2=>?_
 refine⟨h.pos _ (List.getElem_mem h1),?_⟩;subst e1
 by_cases hi:i<a.length
 ·rw[List.getElem_append_left hi,List.getElem_append_left oM];have:=e3 i hi oM
  omega
 ·rw[List.length_append]at h1
  rw[List.getElem_append_right oM,List.getElem_append_right oM];have:=hb (i-a.length) oM oM
  simpa[e2]using this
theorem Mid.given_open {c:List Kind} {l:List Rep} {pre:List Int} {rs:List Rep} (h:Mid c l pre rs):a1L c l (pre++d1x rs) (-1)=true:=by
 refine h.given (by simp[d1x]) oM fun i h1 h2=>?_
 have hp:=h.pos rs[i] (by obtain⟨a,e1,_⟩:=h.is;rw[e1];exact List.mem_append_right _ (List.getElem_mem h1));have:=b0i rs[i]
 simp only[d1x,List.getElem_map]
 split<;>omega
end Go.Sx
set_option linter.all false
namespace Go.Sx
open Go
def d8z (l:List Rep):Nat:=(l.filter fun r=>decide (1<chs r)).length
def d8n (c:List Kind) (l:List Rep):Int:=if a1I c=false then 1 else if l.any (fun r=>decide (chs r=0))=true then 1 else if (30:Int)<(d8z l:Nat) then 7 else 0
def d6A (c:List Kind) (l:List Rep) (most:Int):List (List Int)×Int:=
 if (decide (most<1)||decide (4096<most))=true then ([],1) else if d8n c l≠0 then ([],d8n c l) else if (a1S c l).take most.toNat=[] then ([],21) else ((a1S c l).take most.toNat,0)
theorem c1c {c:List Kind} {l:List Rep} (hc:a1I c=true) (hp:∀r∈l,chs r≠0) (t:List Int):a1L c l t 0=true↔t∈a1Q l:=by
 rw[a9R]
 constructor
 ·intro h;exact⟨(a3o h).1,fun i h1 h2=>by have:=a4p h h1 h2;omega⟩
 ·rintro⟨h1,h2⟩;exact a6t hc h1 fun i h3 h4=>⟨hp _ (List.getElem_mem h3),h2 i h3 h4⟩
theorem a7x {c:List Kind} {l:List Rep} {t:List Int} (h:isF c l t=true):a1L c l t 0=true:=by
 cases hg:a1L c l t 0 with
 |true=>rfl
 |false=>rw[d7v hg]at h;cases h
theorem b7V {c:List Kind} {l:List Rep} (t:List Int):t∈a1S c l↔isF c l t=true:=by
 rw[a1S,List.mem_filter]
 constructor
 ·exact fun h=>h.2
 ·intro h;have hg:=a7x h;refine⟨?_,h⟩
  exact (c1c (b0x hg) (fun r hr h0=>by
   obtain⟨i,hi,rfl⟩:=List.getElem_of_mem hr
   exact (a4p hg hi (by have:=(a3o hg).1;omega)).1 h0) t).1 hg
def a3O:List Rep→Nat
 | []=>1
 |r::l=>(chs r).toNat * a3O l
theorem a9Q:∀l:List Rep,(a1Q l).length=a3O l
 | []=>rfl
 |r::l=>by
  rw[a1Q,List.length_flatMap,a3O]
  simp only[List.length_map,a9Q l]
  rw[List.map_const',List.sum_replicate_nat,List.length_range]
end Go.Sx
set_option linter.all false
namespace Go.Sx
open Go
def d3o (P:Program) (o:Oper) (Q:Exit→Act→World→Prop):Exit→Act→World→Prop
 |.normal,a,w=>∃d,(execOp a.eval o).run P w = .ok (.defer d) w∧Q .normal { a with defers:=d::a.defers } w
 |e,a,w=>Q e a w
theorem c5g {P:Program} {ops:Array Oper} {Q:Exit→Act→World→Prop} {o:Oper} (hn:o.dst=none) (hg:o.guard=none):∀(l:List Oper) (a:Act) (w:World),wpL P ops (d3o P o Q) l a w→wpListIn (fen none) 0 P ops Q (l++[o]) a w
 | [],a,w,h=>by
  obtain⟨d,h1,h2⟩:∃d,(execOp a.eval o).run P w = .ok (.defer d) w∧Q .normal { a with defers:=d::a.defers } w:=h
  show wpListIn (fen none) 0 P ops Q [o] a w
  unfold wpListIn;rw[if_pos (by simp[Region.wanted,hg])];refine⟨fun _ _=>trivial,?_⟩;have e:Oper.semAt (fen none).round a.eval o=execOp a.eval o:=rfl;rw[e,h1]
  show wpListIn (fen none) 0 P ops Q [] (Act.put { a with defers:=d::a.defers } o.dst undef) w
  rw[hn];exact h2
 |o'::rest,a,w,h=>by
  have h:one P ops (d3o P o Q) o' (wpL P ops (d3o P o Q) rest) a w:=h;have h:one P ops Q o' (wpListIn (fen none) 0 P ops Q (rest++[o])) a w:=b3C (fun a w h=>c5g hn hg rest a w h) h;unfold one at h
  show wpListIn (fen none) 0 P ops Q (o'::(rest++[o])) a w
  unfold wpListIn
  split
  ·rename_i hw;rw[if_pos hw]at h;exact b7r h
  ·rename_i hw;rw[if_neg hw]at h;exact⟨fun _ _=>trivial,h⟩
structure FnDf (P:Program) (f:FuncId) (args:Array Value) (I:IMap) (H:List Res) (post:IMap→List Res→Prop):Prop where
 go:∀w,Mem ⟨a2c H,I,w⟩ I H w→CallsDIn Fence.wide 0 P f args .returning w fun e u w'=>u = .returning∧∃v I' H',e = .returned v∧Mem ⟨a2c H,I,w⟩ I' H' w'∧post I' H'
section
variable {P:Program} {ρ:Option Nat} {n:Sz} {E:Ent} {I:IMap} {L:LL} {H:List Res} {Q:Exit→Act→World→Prop} {ops:Array Oper}
variable {ty:Nat} {pos:String} {af:Array Edge} {fo:Operand} {as_:List Operand} {ats:Array TypeId} {f:FuncId}
theorem b9w {id:Nat} {o1 o2:Oper} (hn:o2.dst=none) (hg:o2.guard=none) (h:SX n E I L H (wpL P [o1,o2].toArray (d3o P o2 Q) [o1])):SX n E I L H ((Code.region id [o1,o2].toArray false).wq none P Q):=
 fun a w s m=>wpIn_region_lit (c5g (l:=[o1]) hn hg _ _ (h a w s m))
theorem d5s {fs cs:Array Value} {vs:List Value} (hf:ev L fo=some (.func (.func f) fs cs)) (ha:evs L as_=some vs)
  (h:SX ⟨n.sz,.f { target:=.fn (.func f) cs,args:=fs++vs.toArray } :: n.D⟩ E I L H (Q .normal)):SX n E I L H (d3o P ⟨none,.defer { callee:=.value fo,args:=as_.toArray,argTypes:=ats },ty,pos,af,none⟩ Q .normal):=fun a w s m=>by
 refine⟨_,?_,h { a with defers:=_ } w ⟨s.size,by show _::a.defers=_;rw[s.defers];rfl,s.get⟩ m⟩;have e:=a6q s as_ vs ha
 simp only[execOp,resolve,s.ev hf]
 simp[Deferred.ofValue,e,go_sem]
 rfl
theorem c7u {k:Nat} {D:List Mk} {fn:Func} {R:Ending→World→Prop} {Hc H0:List Res} {args cap:Array Value} {post:IMap→List Res→Prop} (hcall:∀(args:Array Value) (w:World),(callFunc f args).run P w = .ok (.enter f args) w)
  (hc:FnDf P f (args++cap) I Hc post) (kk:∀I' H',ILe I I'→post I' H'→SX ⟨k,D⟩ E I' L (H'++H0) (b3U P fn R .ret)) :
  SX ⟨k,.f { target:=.fn (.func f) cap,args:=args } :: D⟩ E I L (Hc++H0) (b3U P fn R .ret):=fun a w s m=>by
 show LeavesInM Fence.wide 0 P fn a.tmps R a.defers .returning w
 rw[s.defers];refine⟨by simp,.inr ⟨fun h=>by simp[Fence.wide]at h,.func f,cap,f,args++cap,rfl,?_,fun _ _=>trivial,CallsDIn.mono (hc.go w m.call) ?_⟩⟩
 ·simp[invoke,go_sem,hcall,Mk.of]
 ·rintro e u w' ⟨rfl,v,I',H',rfl,hm,hp⟩;have:=kk I' H' hm.mono hp { a with defers:=(Sz.mk k D).marks } w' ⟨s.size,rfl,s.get⟩ (m.back hm);exact this
def d8j (P:Program) (fn:Func) (R:Ending→World→Prop):Exit→Act→World→Prop:=bodyPost P fn R
theorem d7n {k:Nat} {fn:Func} {R:Ending→World→Prop} (hf:fn.results=#[]) (h:SX ⟨k,[]⟩ E I L H fun _ w=>R (.returned (.tuple #[])) w):SX ⟨k,[]⟩ E I L H (d8j P fn R .normal):=fun a w s m=>
 ⟨by rw[s.defers];rfl,_,d7W hf a w,h a w s m⟩
end
end Go.Sx
