
import Derived.Test.YtkndpfncklhhlaaGreatZBma
import Derived.SizedLaws
import Derived.Test.YtkndpfncklhhlaaGreatChecked
set_option linter.all false
namespace Go.Sx
open Go
def zLife:Life:=⟨⟨0,0⟩,⟨0,0⟩,⟨0,0⟩⟩
def zPart:Part:=⟨a1b,a1b,a1b,a1b,0,0,false,[],zLife⟩
def PartIs (I:IMap) (r:Option Part) (u:Value):Prop:=∃vs,u = .tuple #[.agg vs.toArray,.bool r.isSome]∧Enc.rd I vs (r.getD zPart)
theorem PartIs.of {I:IMap} {r:Option Part} {k:Part} {vs:List Value} (h:r=some k) (hr:Enc.rd I vs k):PartIs I r (.tuple #[.agg vs.toArray,.bool true]):=by subst h;exact⟨vs,rfl,hr⟩
theorem PartIs.none {I:IMap} {r:Option Part} (h:r=none):PartIs I r (.tuple #[.agg (zPart.cells (.slice none 0 0)).toArray,.bool false]):=by subst h;exact⟨_,rfl,_,rfl,RdS.nil'⟩
def a0C (st:List Part) (s:ByteArray):Option Part:=st.find? fun p=>decide (p.name=s)
def Ix (kvs:List (ByteArray×Value)) (st:List Part):Prop:=∀s,a4I kvs s=(st.findIdx? fun p=>decide (p.name=s)).map fun i=>ci (i:Nat)
theorem Ix.nil:Ix [] []:=fun s=>rfl
theorem Ix.isS {kvs:List (ByteArray×Value)} {st:List Part} (h:Ix kvs st) (s:ByteArray):(a4I kvs s).isSome=(st.findIdx? fun p=>decide (p.name=s)).isSome:=by rw[h s];simp
theorem b8C {kvs:List (ByteArray×Value)} {k:ByteArray} {v:Value} (h:(kvs.map Prod.fst).Nodup):((a5I kvs k v).map Prod.fst).Nodup:=by
 have key:∀(kvs:List (ByteArray×Value)),(kvs.map Prod.fst).Nodup→((a5I kvs k v).map Prod.fst).Nodup∧∀x,x∈(a5I kvs k v).map Prod.fst→x=k∨x∈kvs.map Prod.fst:=by
  intro kvs
  induction kvs with
  |nil=>intro _;simp[a5I]
  |cons p r ih=>
   obtain⟨k',u⟩:=p;intro h;rw[List.map_cons,List.nodup_cons]at h
   simp only[a5I]
   split
   ·exact⟨by rw[List.map_cons,List.nodup_cons];exact h,fun x hx=>.inr hx⟩
   ·rename_i hne
    obtain⟨h1,h2⟩:=ih h.2;refine⟨by rw[List.map_cons,List.nodup_cons];exact⟨fun hm=>(h2 _ hm).elim hne h.1,h1⟩,fun x hx=>?_⟩;rw[List.map_cons,List.mem_cons]at hx ⊢
    rcases hx with hx|hx
    ·exact .inr (.inl hx)
    ·exact (h2 x hx).imp id .inr
 exact (key kvs h).1
theorem Ix.put {kvs:List (ByteArray×Value)} {st:List Part} {p:Part} {j:Nat} (h:Ix kvs st) (hj:j=st.length) (hn:(a4I kvs p.name).isSome=false):Ix (a5I kvs p.name (ci (j:Nat))) (st++[p]):=by
 subst hj;intro s;have h1:st.findIdx? (fun q=>decide (q.name=p.name))=none:=by rw[h.isS]at hn;simpa using hn
 rw[a9N,List.findIdx?_append]
 by_cases e:p.name=s
 ·subst e
  simp[h1]
 ·rw[if_neg e,h s]
  simp[e]
theorem Ix.skip {kvs:List (ByteArray×Value)} {st:List Part} {p:Part} (h:Ix kvs st) (hn:(a4I kvs p.name).isSome=true):Ix kvs (st++[p]):=by
 intro s;rw[h s,List.findIdx?_append]
 by_cases e:p.name=s
 ·subst e;rw[h.isS]at hn
  obtain⟨i,hi⟩:=Option.isSome_iff_exists.1 hn
  simp[hi]
 ·simp[e]
theorem Ix.look {kvs:List (ByteArray×Value)} {st:List Part} (h:Ix kvs st) (s:ByteArray):∃(z:Int) (b:Bool),(a4I kvs s).getD (.int .i64 0) = .int .i64 z∧(a4I kvs s).isSome=b ∧
  (b=true→∃(i:Nat) (hi:i<st.length),z=(i:Int)∧a0C st s=some st[i])∧(b=false→a0C st s=none):=by
 rw[h s]
 cases hf:st.findIdx? fun p=>decide (p.name=s) with
 |none=>
  refine⟨0,false,rfl,rfl,fun h=>(by cases h),fun _=>?_⟩;rw[List.findIdx?_eq_none_iff]at hf
  rw[a0C,List.find?_eq_none];intro x hx
  simpa using hf x hx
 |some i=>
  refine⟨i,true,rfl,rfl,fun _=>?_,fun h=>(by cases h)⟩;rw[List.findIdx?_eq_some_iff_getElem]at hf
  obtain⟨hi,hp,hn⟩:=hf;refine⟨i,hi,rfl,?_⟩;rw[a0C,List.find?_eq_some_iff_getElem];exact⟨hp,i,hi,rfl,fun j hj=>by simpa using hn j hj⟩
def a4F {α:Type} (nm:α→ByteArray) (pre:List α) (x:α):Bool:=match pre.getLast? with|some y=>sLt (nm y) (nm x)|none=>true
def b8N {α:Type} (nm:α→ByteArray) (l:List α):Bool:=a2m (a4F nm) l l.length
theorem b6V {α:Type} {nm:α→ByteArray} {l:List α} {i:Nat} (h1:1≤i) (hi:i<l.length) (h:a2m (a4F nm) l i=true) (hp:sLt (nm (l[i-1]'oM)) (nm l[i])=true) :
  a2m (a4F nm) l (i+1)=true:=by
 refine a0T h hi ?_
 have:(l.take i).getLast? = some (l[i-1]'oM):=by
  rw[List.getLast?_eq_getElem?,List.length_take,Nat.min_eq_left oM,List.getElem?_take,if_pos oM,List.getElem?_eq_getElem]
 simp only[a4F,this];exact hp
theorem c1V {α:Type} {nm:α→ByteArray} {l:List α} {i:Nat} (h1:1≤i) (hi:i<l.length) (hp:sLt (nm (l[i-1]'oM)) (nm l[i])=false):b8N nm l=false:=by
 refine a0R hi ?_
 have:(l.take i).getLast? = some (l[i-1]'oM):=by
  rw[List.getLast?_eq_getElem?,List.length_take,Nat.min_eq_left oM,List.getElem?_take,if_pos oM,List.getElem?_eq_getElem]
 simp only[a4F,this];exact hp
theorem b3B {α:Type} {nm:α→ByteArray} (l:List α):a2m (a4F nm) l 1=true:=by
 cases l<;>simp[a2m,List.range_succ,a4F]
theorem b9w {α:Type} {f:List α→α→Bool} {l:List α} {i j:Nat} (hij:j≤i) (h:a2m f l i=true):a2m f l j=true:=by
 rw[a2m,List.all_eq_true]at h ⊢
 intro k hk;exact h k (List.mem_range.2 (by have:=List.mem_range.1 hk;omega))
def a2i (i:Ivl):Bool:=(decide (0≤i.low)&&decide (i.low≤i.high))&&decide (i.high≤1000000000000)
def a4L (p:Prp):Bool:=(a2j p.key && !decide (p.value=a1b))&&decide (((p.value.size:Nat):Int)≤200)
def a3F (c:List Kind) (p:Part):Bool:=((((!(a2D c p.kind).isSome || !a2j p.name)||decide (p.made<0))||decide (p.since<p.made))||decide (40000<p.since))||decide ((60:Int)<(p.props.length:Nat))
def a3U (c:List Kind) (p:Part):Bool:=!a3F c p&&a2m (fun _ q=>a4L q) p.props p.props.length&&(((b8N Prp.key p.props&&a2i p.life.km)&&a2i p.life.cycles)&&a2i p.life.damage)
def SmP (p:Part):Prop:=Sm p.name∧∀q∈p.props,Sm q.key
def SmF (st:List Part):Prop:=∀p∈st,SmP p
def a3z (p:Part):ByteArray×ByteArray:=(p.into,p.slot)
def a3w (pre:List Part):List Part:=pre.filter fun p=>!decide (p.into=a1b)
def b7V (c:List Kind) (p:Part):Bool:=!a3U c p || !(decide (p.into=a1b) == decide (p.slot=a1b))
def b1F (c:List Kind) (st:List Part) (pre:List Part) (p:Part):Bool:=
 (((!(a0C st p.into).isSome||p.scrapped)||((a0C st p.into).getD zPart).scrapped)||hit a3z (a3w pre) (a3z p)) || !a4Q c ((a0C st p.into).getD zPart).kind p.slot p.kind
def a3g (c:List Kind) (st:List Part) (pre:List Part) (p:Part):Bool:=!b7V c p&&(decide (p.into=a1b) || !b1F c st pre p)
def b4v (c:List Kind) (st:List Part):Bool:=(!a1a c||decide ((20000:Int)<(st.length:Nat))) || !b8N Part.name st
def a2Z (c:List Kind) (st:List Part):Bool:=!b4v c st&&a2m (a3g c st) st st.length
theorem b5H {st:List Part} {i:Nat} (hi:i<st.length) (h:st[i].into=a1b):a3w (st.take (i+1))=a3w (st.take i):=by
 rw[←a0e hi,a3w,List.filter_append];simp[h,a3w]
theorem b4a {st:List Part} {i:Nat} (hi:i<st.length) (h:¬st[i].into=a1b):a3w (st.take (i+1))=a3w (st.take i)++[st[i]]:=by
 rw[←a0e hi,a3w,List.filter_append];simp[h,a3w]
end Go.Sx
set_option linter.all false
namespace Go.Sx
open Go
theorem b2N:∀l:List UInt8,Op.bytesLess l l=false
 | []=>rfl
 |a::l=>by simp[Op.bytesLess,b2N l]
theorem c3H:∀(a b c:List UInt8),Op.bytesLess a b=true→Op.bytesLess b c=true→Op.bytesLess a c=true:=by
 intro a
 induction a with
 |nil=>
  intro b c h1 h2
  cases c with
  |nil=>cases b<;>simp[Op.bytesLess]at h2
  |cons=>rfl
 |cons x a ih=>
  intro b c h1 h2
  cases b with
  |nil=>simp[Op.bytesLess]at h1
  |cons y b=>
   cases c with
   |nil=>simp[Op.bytesLess]at h2
   |cons z c=>
    simp only[Op.bytesLess,Bool.or_eq_true,decide_eq_true_eq,Bool.and_eq_true,beq_iff_eq]at h1 h2 ⊢
    rcases h1 with h1|⟨rfl,h1⟩
    ·rcases h2 with h2|⟨rfl,h2⟩
     ·exact .inl (UInt8.lt_trans h1 h2)
     ·exact .inl h1
    ·rcases h2 with h2|⟨rfl,h2⟩
     ·exact .inl h2
     ·exact .inr ⟨rfl,ih b c h1 h2⟩
theorem d0H:∀(a b:List UInt8),Op.bytesLess a b=false→Op.bytesLess b a=false→a=b:=by
 intro a
 induction a with
 |nil=>intro b h1 h2;cases b with
  |nil=>rfl
  |cons=>simp[Op.bytesLess]at h1
 |cons x a ih=>
  intro b h1 h2
  cases b with
  |nil=>simp[Op.bytesLess]at h2
  |cons y b=>
   simp only[Op.bytesLess,Bool.or_eq_false_iff,decide_eq_false_iff_not,Bool.and_eq_false_iff,beq_eq_false_iff_ne]at h1 h2
   obtain⟨h1,h3⟩:=h1;obtain⟨h2,h4⟩:=h2
   have e:x=y:=by
    apply UInt8.toNat_inj.1
    have a1:¬x.toNat<y.toNat:=fun h=>h1 (UInt8.lt_iff_toNat_lt.2 h)
    have a2:¬y.toNat<x.toNat:=fun h=>h2 (UInt8.lt_iff_toNat_lt.2 h)
    omega
   subst e;have h3':Op.bytesLess a b=false:=by rcases h3 with h|h;exact absurd rfl h;simpa using h
   have h4':Op.bytesLess b a=false:=by rcases h4 with h|h;exact absurd rfl h;simpa using h
   rw[ih b h3' h4']
theorem a1M (s:ByteArray):sLt s s=false:=b2N _
theorem a4z {a b c:ByteArray} (h1:sLt a b=true) (h2:sLt b c=true):sLt a c=true:=c3H _ _ _ h1 h2
theorem c9x {a b:ByteArray} (h1:sLt a b=false) (h2:sLt b a=false):a=b:=by
 have h:=d0H _ _ h1 h2;have:=a7I a b;rw[h]at this
 simpa using this.symm
theorem b0g {a b:ByteArray} (h:sLt a b=true):sLt b a=false:=by
 cases h2:sLt b a with
 |false=>rfl
 |true=>have:=a4z h h2;rw[a1M]at this;cases this
theorem a8J {a b:ByteArray}:b9s a b<0↔sLt a b=true:=by
 unfold b9s;split
 ·rename_i h;simp[h]
 ·rename_i h;split<;>simp[h]
theorem b2T {a b:ByteArray}:b9s a b=0↔a=b:=by
 unfold b9s;split
 ·rename_i h
  constructor
  ·intro h2;cases h2
  ·rintro rfl;rw[a1M]at h;cases h
 ·rename_i h
  split
  ·rename_i h2
   constructor
   ·intro h3;cases h3
   ·rintro rfl;simp at h2
  ·rename_i h2;simp[h]at h2;simp[h2]
def Srt {α:Type} (nm:α→ByteArray) (l:List α):Prop:=∀i j (hj:j<l.length) (hi:i<j),sLt (nm (l[i]'oM)) (nm l[j])=true
theorem Srt.of_ord {α:Type} {nm:α→ByteArray} {l:List α} (h:b8N nm l=true):Srt nm l:=by
 have step:∀j (hj:j+1<l.length),sLt (nm (l[j]'oM)) (nm l[j+1])=true:=by
  intro j hj;rw[b8N,a2m,List.all_eq_true]at h
  have h1:=h (j+1) (List.mem_range.2 hj)
  have h2:(l.take (j+1)).getLast? = some (l[j]'oM):=by
   rw[List.getLast?_eq_getElem?,List.length_take,Nat.min_eq_left oM,List.getElem?_take,if_pos oM,List.getElem?_eq_getElem]
   rfl
  simpa[List.getElem?_eq_getElem hj,a4F,h2]using h1
 intro i j
 induction j with
 |zero=>intro hj hi;omega
 |succ j ih=>
  intro hj hi
  rcases Nat.lt_or_ge i j with hij|hij
  ·exact a4z (ih oM hij) (step j hj)
  ·obtain rfl:i=j:=oM;exact step i hj
def a6t {α:Type} (nm:α→ByteArray) (l:List α) (s:ByteArray):Nat:=l.findIdx fun x=>!sLt (nm x) s
def atF {α:Type} (nm:α→ByteArray) (l:List α) (s:ByteArray):Bool:=match l[a6t nm l s]? with|some x=>decide (nm x=s)|none=>false
theorem b7a {α:Type} (nm:α→ByteArray) (l:List α) (s:ByteArray):a6t nm l s≤l.length:=List.findIdx_le_length
theorem b6Z {α:Type} {nm:α→ByteArray} {l:List α} {s:ByteArray} {i:Nat} (hi:i≤l.length) (h1:∀q x,q<i→l[q]? = some x→sLt (nm x) s=true) (h2:∀q x,i≤q→l[q]? = some x→sLt (nm x) s=false):a6t nm l s=i:=by
 rcases Nat.lt_or_ge i l.length with h|h
 ·refine (List.findIdx_eq h).2 ⟨by simp[h2 i _ (Nat.le_refl _) (List.getElem?_eq_getElem h)],fun j hj=>?_⟩
  simp[h1 j _ hj (List.getElem?_eq_getElem oM)]
 ·obtain rfl:i=l.length:=oM;refine List.findIdx_eq_length.2 fun x hx=>?_
  obtain⟨j,hj,rfl⟩:=List.getElem_of_mem hx
  simp[h1 j _ hj (List.getElem?_eq_getElem hj)]
theorem d0M {α:Type} {nm:α→ByteArray} {l:List α} {s:ByteArray} {h:Nat} (hs:Srt nm l) (hh:h<l.length) (hl:sLt (nm l[h]) s=true) (q:Nat) (x:α) (hq:q<h+1) (hx:l[q]? = some x):sLt (nm x) s=true:=by
 obtain⟨hql,rfl⟩:=List.getElem?_eq_some_iff.1 hx
 rcases Nat.lt_or_ge q h with hqh|hqh
 ·exact a4z (hs q h hh hqh) hl
 ·obtain rfl:q=h:=oM;exact hl
theorem d0L {α:Type} {nm:α→ByteArray} {l:List α} {s:ByteArray} {h:Nat} (hs:Srt nm l) (hh:h<l.length) (hl:sLt (nm l[h]) s=false) (q:Nat) (x:α) (hq:h≤q) (hx:l[q]? = some x):sLt (nm x) s=false:=by
 obtain⟨hql,rfl⟩:=List.getElem?_eq_some_iff.1 hx
 rcases Nat.lt_or_ge h q with hqh|hqh
 ·cases hc:sLt (nm l[q]) s with
  |false=>rfl
  |true=>have:=a4z (hs h q hql hqh) hc;rw[this]at hl;cases hl
 ·obtain rfl:q=h:=oM;exact hl
theorem d0G {α:Type} {nm:α→ByteArray} {l:List α} {s:ByteArray} {i:Nat} (hp:a6t nm l s=i) (hi:i<l.length):atF nm l s=decide (nm l[i]=s):=by
 simp[atF,hp,hi]
theorem c7t {α:Type} {nm:α→ByteArray} {l:List α} {s:ByteArray} {i:Nat} (hp:a6t nm l s=i) (hi:¬i<l.length):atF nm l s=false:=by
 simp[atF,hp,List.getElem?_eq_none (by omega:l.length≤i)]
theorem c6y {α:Type} {nm:α→ByteArray} {l:List α} {s:ByteArray} (h:atF nm l s=true):a6t nm l s<l.length:=by
 rcases Nat.lt_or_ge (a6t nm l s) l.length with h1|h1
 ·exact h1
 ·rw[c7t rfl oM]at h;cases h
theorem wrap_u64 (x:Int) (h0:0≤x) (h:x<18446744073709551616):IntKind.u64.wrap x=x:=by
 simp[IntKind.wrap,IntKind.signed,IntKind.bits]
 omega
def a4M {α:Type} (nm:α→ByteArray) (l:List α) (x:α):List α:=if atF nm l (nm x)=true then l.set (a6t nm l (nm x)) x else l.take (a6t nm l (nm x))++x::l.drop (a6t nm l (nm x))
end Go.Sx
set_option linter.all false
namespace Go.Sx
open Go
section
variable {α:Type}
theorem b6s {xs:List α} {c z:α} {i n q r:Nat} (hn:xs.length=n) (hi:i≤n) (hq:i+q=n+1) :
  (((xs.take i++List.replicate (q+r) z).take i++([c]++(xs.take i++List.replicate (q+r) z).drop (i+[c].length))).take (i+1) ++
   (xs.drop i++((xs.take i++List.replicate (q+r) z).take i++([c]++(xs.take i++List.replicate (q+r) z).drop (i+[c].length))).drop (i+1+(xs.drop i).length)))=(xs.take i++c::xs.drop i)++List.replicate r z:=by
 have h1:(xs.take i).length=i:=by rw[List.length_take];omega
 have h2:(xs.take i++List.replicate (q+r) z).take i=xs.take i:=by rw[List.take_append_of_le_length oM,List.take_of_length_le oM]
 have h3:(xs.take i++List.replicate (q+r) z).drop (i+[c].length)=List.replicate (q+r-1) z:=by
  rw[List.drop_append,List.drop_eq_nil_of_le (by simp;omega),List.nil_append,h1,List.drop_replicate]
  congr 1
  simp
 rw[h2,h3]
 have h4:(xs.take i++([c]++List.replicate (q+r-1) z)).take (i+1)=xs.take i++[c]:=by
  rw[List.take_append,List.take_of_length_le oM,h1]
  congr 1
  rw[show i+1-i=1 from by omega]
  rfl
 have h5:(xs.take i++([c]++List.replicate (q+r-1) z)).drop (i+1+(xs.drop i).length)=List.replicate r z:=by
  rw[List.drop_append,List.drop_eq_nil_of_le oM,List.nil_append,h1,List.length_drop,List.drop_append,List.drop_eq_nil_of_le (by simp;omega),List.nil_append,List.drop_replicate]
  congr 1
  simp
  omega
 rw[h4,h5]
 simp
theorem b3j {xs rest:List α} {c:α} {i n:Nat} (hn:xs.length=n) (hi:i≤n) (hr:0<rest.length) :
  ((((xs++rest).take (i+1)++((((xs++rest).drop i).take (n-i))++(xs++rest).drop (i+1+(((xs++rest).drop i).take (n-i)).length))).take i) ++
   ([c]++((xs++rest).take (i+1)++((((xs++rest).drop i).take (n-i))++(xs++rest).drop (i+1+(((xs++rest).drop i).take (n-i)).length))).drop (i+[c].length)))=(xs.take i++c::xs.drop i)++rest.drop 1:=by
 have h1:((xs++rest).drop i).take (n-i)=xs.drop i:=by
  rw[List.drop_append_of_le_length oM,List.take_append_of_le_length (by rw[List.length_drop];omega),List.take_of_length_le (by rw[List.length_drop];omega)]
 rw[h1];have h2:((xs++rest).take (i+1)).length=i+1:=by rw[List.length_take,List.length_append];omega
 have h3:(xs++rest).drop (i+1+(xs.drop i).length)=rest.drop 1:=by
  rw[List.length_drop,List.drop_append,List.drop_eq_nil_of_le oM,List.nil_append]
  congr 1
  omega
 rw[h3];rw[List.take_append_of_le_length oM,List.take_take,Nat.min_eq_left oM,List.take_append_of_le_length oM];rw[List.drop_append,List.drop_eq_nil_of_le (by simp;omega),List.nil_append,h2];rw[show i+[c].length-(i+1)=0 from by simp]
 simp
end
section
variable {P:Program} {ρ:Option Nat} {n:Sz} {E:Ent} {I:IMap} {L:LL} {H:List Res} {Q:Exit→Act→World→Prop} {ops:Array Oper} {K:Act→World→Prop}
variable {d ty:Nat} {pos:String} {af:Array Edge}
theorem a4C {g t:Nat} {xss yss:List (List Value)} (h:xss=yss) (k:SX n E I L (.blk g t yss.flatten::H) K):SX n E I L (.blk g t xss.flatten::H) K:=h▸k
theorem OV.cast {op:Op} {dst:Option Nat} {v u:Value} (h:OV P n E I L H ⟨dst,op,ty,pos,af,none⟩ v) (e:v=u):OV P n E I L H ⟨dst,op,ty,pos,af,none⟩ u:=e▸h
theorem a1O {g c o k:Nat} (h:o<c):c3S (some ⟨g,0,none⟩) c o k=some ⟨g,o * k,none⟩:=by
 unfold c3S;rw[if_neg oM]
 simp[add_lit]
theorem b2A {g t k o m:Nat} {xss:List (List Value)} (hm:Res.blk g t xss.flatten∈H) (hU:Uk k xss) (w:World) (mm:Mem E I H w) (j:Nat) (u:Value) (hu:((xss.drop o).take m).flatten[j]? = some u):w.cell? ⟨g,o * k+j,none⟩=some u:=by
 have hg:w.heap[g]? = some (.cells xss.flatten.toArray t (0,0)):=mm.holds _ hm;rw[cell_of_row w g _ _ t _ hg];rw[←a7p (hU.drop o),←a7o hU,List.getElem?_take]at hu
 split at hu
 ·simpa[List.getElem?_drop]using hu
 ·cases hu
end
end Go.Sx
set_option linter.all false
namespace Go.Sx
open Go
section
variable {P:Program} {ρ:Option Nat} {n:Sz} {E:Ent} {I:IMap} {L:LL} {H:List Res} {Q:Exit→Act→World→Prop} {ops:Array Oper} {K:Act→World→Prop}
variable {d ty:Nat} {pos:String} {af:Array Edge}
theorem c8L {v:Value} {g t:Nat} {cs:List Value} {fo:Operand} {as_:List Operand} {ats:Array TypeId} {f:FuncId} {args:List Value}
  (hm:Res.blk g t cs∈H) (hc:∀I2,ILe I I2→ICells I2 g 0 cs→FnV P f args.toArray I2 v) (h:a1z L fo as_=some (f,args)) (hd:Nat.blt d n.sz=true)
  (kk:SX n E I ((d,v)::L) H K) :
  SX n E I L H (one P ops Q ⟨some d,.call { callee:=.value fo,args:=as_.toArray,argTypes:=ats },ty,pos,af,none⟩ K):=by
 intro a w s mm;have hg:w.heap[g]? = some (.cells cs.toArray t (0,0)):=mm.holds _ hm;have hpriv:=(mm.priv _ hm g rfl).1;have hle:ILe I (I.pub g (.cells cs.toArray t (0,0))):=IMap.pub_le _ hpriv;have hR:ICells (I.pub g (.cells cs.toArray t (0,0))) g 0 cs:=fun j u hu=>⟨_,t,(0,0),IMap.pub_same _ _ _,by rw[Nat.zero_add];simpa using hu⟩
 have m2:Mem ⟨[],I.pub g (.cells cs.toArray t (0,0)),w⟩ (I.pub g (.cells cs.toArray t (0,0))) [] w:=⟨Upd.refl _ _,fun b o hb=>by
  unfold IMap.pub at hb
  split at hb
  ·rename_i e;subst e;cases hb;exact hg
  ·exact mm.con b o hb,ILe.refl _,fun b hb=>.inl hb,fun _ h=>(by cases h),fun _ h=>(by cases h),List.nodup_nil⟩
 have back:∀w',Mem ⟨[],I.pub g (.cells cs.toArray t (0,0)),w⟩ (I.pub g (.cells cs.toArray t (0,0))) [] w'→Mem E I H w':=fun w' m'=>
  mm.other m'.upd.os m'.upd.tape m'.upd.output m'.upd.size (fun k hk=>m'.upd.block k hk (by simp))
 unfold one;rw[if_pos (by rfl)];refine a7O ?_;have h1:=(hc _ hle hR).go w m2;unfold After at h1 ⊢
 rw[a7H s h ⟨some d,.call { callee:=.value fo,args:=as_.toArray,argTypes:=ats },ty,pos,af,none⟩ rfl (ats:=ats)]
 have key:∀e w'',a8F ⟨[],(I.pub g (.cells cs.toArray t (0,0))),w⟩ (fun u I' H'=>u=v∧I'=(I.pub g (.cells cs.toArray t (0,0)))∧H'=[]) e w''→(match e with | .returned v=>K (a.put (some d) v) w''|_=>False):=by
  rintro e w'' ⟨u,I',H',rfl,hm',rfl,rfl,rfl⟩;exact kk _ _ (s.put hd) (back _ hm')
 split at h1
 ·rename_i v w' hr;exact key _ _ h1
 ·rename_i f' args' w' hr;exact Calls.mono h1 key
 ·rename_i l f' tmps assign body w' hr;exact RoundIn.mono h1 key
 ·exact h1.elim
end
abbrev b4n:=List Part×Int
def a5S (n:Int):b4n:=([],n)
def b7d (st:List Part) (p:Part):b4n:=(a4M Part.name st p,0)
def c4N (e:Evt):Part:=⟨e.part,e.kind,a1b,a1b,e.day,e.day,false,[],zLife⟩
def a2s (c:List Kind) (st:List Part) (e:Evt):b4n:=
 if (a0C st e.part).isSome=true then a5S 3 else if (a2D c e.kind).isSome=false then a5S 4 else if ((st.length:Nat):Int)=20000 then a5S 7 else b7d st (c4N e)
def a0S (st:List Part) (e:Evt):Bool:=st.any fun x=>decide (x.into=e.into)&&decide (x.slot=e.slot)
def a1f (st:List Part) (s:ByteArray):Bool:=st.any fun x=>decide (x.into=s)
def a0L (c:List Kind) (st:List Part) (e:Evt) (p q:Part) (kd:Kind):b4n:=
 if (kd.vehicle || !a4Q c q.kind e.slot p.kind)=true then a5S 4 else if ¬p.into=a1b then a5S 5 else if a0S st e=true then a5S 6 else b7d st { p with into:=e.into,slot:=e.slot }
def a0m (st:List Part) (p:Part):b4n:=if p.into=a1b then a5S 5 else b7d st { p with into:=a1b,slot:=a1b }
def a0H (st:List Part) (p:Part) (kd:Kind):b4n:=if kd.vehicle=false then a5S 4 else b7d st p
def a1g (e:Evt) (p:Part):Part:={ p with since:=if e.day>p.since then e.day else p.since,life:=zLife }
def a2o (e:Evt) (p:Part):Part:={ p with props:=a4M Prp.key p.props ⟨e.key,e.value⟩ }
def a0B (st:List Part) (e:Evt) (p:Part):b4n:=if (60:Int)<((a2o e p).props.length:Nat) then a5S 7 else b7d st (a2o e p)
def a0r (st:List Part) (p:Part):b4n:=if (!decide (p.into=a1b)||a1f st p.name)=true then a5S 5 else b7d st { p with scrapped:=true }
def a0X (c:List Kind) (st:List Part) (e:Evt) (p q:Part) (kd:Kind):b4n:=
 if e.op=2 then a0L c st e p q kd else if e.op=3 then a0m st p else if e.op=4 then a0H st p kd else if e.op=5 then b7d st (a1g e p) else if e.op=6 then a0B st e p else if e.op=7 then a0r st p else b7d st p
def a1V (st:List Part) (e:Evt):Part:=(a0C st e.part).getD zPart
def a5g (st:List Part) (e:Evt):Option Part:=if e.op=2 then a0C st e.into else a0C st e.part
def a5h (st:List Part) (e:Evt):Part:=(a5g st e).getD zPart
def a2F (c:List Kind) (st:List Part) (e:Evt):Kind:=(a2D c (a1V st e).kind).getD a4Y
def a0q (c:List Kind) (st:List Part) (e:Evt):b4n:=
 if (!(a0C st e.part).isSome || !(a5g st e).isSome)=true then a5S 2 else if ((a1V st e).scrapped||(a5h st e).scrapped)=true then a5S 5 else a0X c st e (a1V st e) (a5h st e) (a2F c st e)
def a0f (c:List Kind) (st:List Part) (e:Evt):b4n:=
 if (!a2Z c st || !a1t e)=true then a5S 1 else if e.op=1 then a2s c st e else a0q c st e
def StIs (J:IMap) (r:b4n) (u:Value):Prop:=∃w,u = .tuple #[.agg #[w],.int .i64 r.2]∧RdS J w r.1
theorem StIs.fail {J:IMap} {r:b4n} {n:Int} (h:r=a5S n):StIs J r (.tuple #[.agg #[.slice none 0 0],.int .i64 n]):=by subst h;exact⟨_,rfl,RdS.nil'⟩
theorem StIs.put {J:IMap} {r:b4n} {st:List Part} {p:Part} {w:Value} (h:r=b7d st p) (hw:RdS J w (a4M Part.name st p)):StIs J r (.tuple #[.agg #[w],.int .i64 0]):=by subst h;exact⟨w,rfl,hw⟩
theorem a8h {c:List Kind} {st:List Part} (h:a2Z c st=true):Srt Part.name st∧st.length≤20000:=by
 simp only[a2Z,b4v,Bool.and_eq_true,Bool.not_eq_true',Bool.or_eq_false_iff,Bool.not_eq_false',decide_eq_false_iff_not]at h
 exact⟨Srt.of_ord h.1.2,oM⟩
theorem a4g {α:Type} {f:List α→α→Bool} {l:List α} (h:a2m f l l.length=true) {x:α} (hx:x∈l):∃pre,f pre x=true:=by
 obtain⟨i,hi,rfl⟩:=List.getElem_of_mem hx;rw[a2m,List.all_eq_true]at h
 have h1:=h i (List.mem_range.2 hi)
 simp only[List.getElem?_eq_getElem hi]at h1
 exact⟨_,h1⟩
theorem a5G {c:List Kind} {st:List Part} (h:a2Z c st=true) {p:Part} (hp:p∈st):Srt Prp.key p.props∧p.props.length≤60:=by
 simp only[a2Z,Bool.and_eq_true]at h
 obtain⟨pre,h1⟩:=a4g h.2 hp
 simp only[a3g,b7V,Bool.and_eq_true,Bool.not_eq_true',Bool.or_eq_false_iff,Bool.not_eq_false']at h1
 have h2:=h1.1.1
 simp only[a3U,a3F,Bool.and_eq_true,Bool.not_eq_true',Bool.or_eq_false_iff,decide_eq_false_iff_not]at h2
 exact⟨Srt.of_ord h2.2.1.1.1,oM⟩
theorem a7n {st:List Part} {s:ByteArray} {p:Part} (h:a0C st s=some p):p∈st:=List.mem_of_find?_eq_some h
theorem a9X {st:List Part} {e:Evt} (h:(a0C st e.part).isSome=true):a1V st e∈st:=by
 obtain⟨p,hp⟩:=Option.isSome_iff_exists.1 h;have:a1V st e=p:=by rw[a1V,hp];rfl
 rw[this];exact a7n hp
end Go.Sx
set_option linter.all false
namespace Go.Sx
open Go
class Day (α:Type) where
 day:α→Int
 ch:α→List Value
 k:Nat
 len:∀x,(ch x).length=k
instance:Day Evt:=⟨Evt.day,Evt.cells,14,fun _=>rfl⟩
variable {α:Type} [Day α]
def a1C (l:List α):List (List Value):=l.map Day.ch
theorem c0o (l:List α):Uk (Day.k α) (a1C l):=fun c hc=>by obtain⟨e,_,rfl⟩:=List.mem_map.1 hc;exact Day.len e
theorem a0v (l:List α):(a1C l).length=l.length:=by simp[a1C]
theorem a1B {l:List α} {i:Nat} (h:i<l.length):(a1C l)[i]? = some (Day.ch l[i]):=by simp[a1C,h]
theorem a6l (l:List α) (i:Nat) (e:α):(a1C l).set i (Day.ch e)=a1C (l.set i e):=by simp[a1C,List.map_set]
theorem a0j (l:List Evt):Uk 14 (a1C l):=c0o l
theorem a7k {I:IMap} (l:List Evt):FlatC I (a1C l) l:=by
 induction l with
 |nil=>exact .nil
 |cons e l ih=>exact .cons rfl ih
theorem c0m {l:List Evt} {rest:List (List Value)} {i:Nat} (h:i<l.length):(a1C l++rest)[i]? = some (Day.ch l[i]):=by
 rw[List.getElem?_append_left (by rw[a0v];exact h)];exact a1B h
theorem c0n (l:List Evt) (rest:List (List Value)) (i:Nat) (h:i<l.length) (e:Evt):(a1C l++rest).set i (Day.ch e)=a1C (l.set i e)++rest:=by
 rw[List.set_append_left _ _ (by rw[a0v];exact h),a6l]
theorem c0l {I:IMap} {xss:List (List Value)} {l:List Evt} (h:FlatC I xss l):xss=a1C l:=by
 induction h with
 |nil=>rfl
 |cons h1 _ ih=>rw[ih];simp only[a1C,List.map_cons];rw[show _=_ from h1];rfl
def swp (l:List α) (i j:Nat):List α:=match l[i]?,l[j]? with
 |some x,some y=>(l.set i y).set j x
 |_,_=>l
theorem b1s {l:List α} {i j:Nat} (hi:i<l.length) (hj:j<l.length):swp l i j=(l.set i l[j]).set j l[i]:=by simp[swp,hi,hj]
theorem b5L (l:List α) (i j:Nat):(swp l i j).length=l.length:=by unfold swp;split<;>simp
def a0u (l:List α) (k:Nat):Int:=(l[k]?.map Day.day).getD 0
theorem a1q {l:List α} {k:Nat} (h:k<l.length):a0u l k=Day.day l[k]:=by simp[a0u,h]
theorem b0l {l:List α} {i j:Nat} (hi:i<l.length) (hj:j<l.length) (k:Nat):(swp l i j)[k]? = if k=j then l[i]? else if k=i then l[j]? else l[k]?:=by
 rw[b1s hi hj,List.getElem?_set,List.getElem?_set]
 by_cases h1:j=k
 ·subst h1;simp[hj,hi]
 ·have:¬k=j:=fun e=>h1 e.symm
  by_cases h2:i=k
  ·subst h2;simp[h1,this,hi,hj]
  ·have h3:¬k=i:=fun e=>h2 e.symm
   simp[h1,h2,this,h3]
theorem c2E {l:List α} {i j:Nat} (hi:i<l.length) (hj:j<l.length) (k:Nat):a0u (swp l i j) k=if k=j then a0u l i else if k=i then a0u l j else a0u l k:=by
 unfold a0u;rw[b0l hi hj]
 split
 ·rfl
 ·split<;>rfl
def Stb (l m:List α):Prop:=l.length=m.length∧∀d:Int,m.filter (fun e=>decide (Day.day e=d))=l.filter (fun e=>decide (Day.day e=d))
theorem Stb.refl (l:List α):Stb l l:=⟨rfl,fun _=>rfl⟩
theorem Stb.trans {l m k:List α} (h:Stb l m) (h':Stb m k):Stb l k:=⟨h.1.trans h'.1,fun d=>(h'.2 d).trans (h.2 d)⟩
theorem b4P (a b:List α) (d:Int) (h:∀x∈a,∀y∈b,Day.day x≠Day.day y):(b++a).filter (fun e=>decide (Day.day e=d))=(a++b).filter (fun e=>decide (Day.day e=d)):=by
 rw[List.filter_append,List.filter_append]
 by_cases ha:a.filter (fun e=>decide (Day.day e=d))=[]
 ·rw[ha];simp
 ·have hb:b.filter (fun e=>decide (Day.day e=d))=[]:=by
   rw[List.filter_eq_nil_iff];intro y hy;obtain⟨x,hx⟩:=List.exists_mem_of_ne_nil _ ha;rw[List.mem_filter]at hx
   have:=h x hx.1 y hy
   simp at hx ⊢
   omega
  rw[hb];simp
theorem Stb.block {p a b s:List α} (h:∀x∈a,∀y∈b,Day.day x≠Day.day y):Stb (p++(a++(b++s))) (p++(b++(a++s))):=by
 refine⟨by simp;omega,fun d=>?_⟩;have:=b4P a b d h;rw[List.filter_append,List.filter_append]at this
 simp only[List.filter_append]
 congr 1
 rw[←List.append_assoc,this,List.append_assoc]
def a9e (l:List α) (a b:Nat):Nat→List α
 |0=>l
 |k+1=>swp (a9e l a b k) (a+k) (b+k)
theorem a3N (l:List α) (a b:Nat):∀k,(a9e l a b k).length=l.length
 |0=>rfl
 |k+1=>by rw[a9e,b5L,a3N l a b k]
theorem a4H {l:List α} {i j:Nat} (hi:i<l.length) (hj:j<l.length):((a1C l).set i (Day.ch l[j])).set j (Day.ch l[i])=a1C (swp l i j):=by
 rw[a6l,a6l,b1s hi hj]
theorem a3Q {l:List α} {i j:Nat} (hi:i<l.length) (hj:j<l.length) (hij:i≠j):((a1C l).set j (Day.ch l[i])).set i (Day.ch l[j])=a1C (swp l i j):=by
 rw[a6l,a6l,b1s hi hj,List.set_comm _ _ hij.symm]
theorem d2G (m:List α) {j:Nat} (hj:j+1<m.length):m=m.take j++([m[j]]++([m[j+1]]++m.drop (j+2))):=by
 conv=>lhs;rw[←List.take_append_drop j m,List.drop_eq_getElem_cons oM,List.drop_eq_getElem_cons hj]
 rfl
theorem c9M (m:List α) {j:Nat} (hj:j+1<m.length):swp m (j+1) j=m.take j++([m[j+1]]++([m[j]]++m.drop (j+2))):=by
 rw[b1s hj oM]
 apply List.ext_getElem?
 intro k;rw[List.getElem?_set,List.getElem?_set,List.getElem?_append]
 simp only[List.length_take,List.length_set]
 have hmin:min j m.length=j:=oM;rw[hmin]
 by_cases h1:k<j
 ·simp[h1,show ¬j=k from oM,show ¬j+1=k from oM,List.getElem?_take]
 ·rw[if_neg h1];obtain⟨q,rfl⟩:∃q,k=j+q:=⟨k-j,oM⟩;rw[Nat.add_sub_cancel_left]
  match q with
  |0=>simp;omega
  |1=>simp[hj]
  |q+2=>
   simp only[show ¬j=j+(q+2) from oM,show ¬j+1=j+(q+2) from oM,if_false]
   simp[List.getElem?_drop]
   congr 1
   omega
theorem c9N {l m:List α} {j:Nat} (h:Stb l m) (hj:j+1<m.length) (hd:a0u m (j+1)<a0u m j):Stb l (swp m (j+1) j):=by
 refine h.trans ?_;have e:=d2G m hj;rw[c9M m hj]
 conv=>arg 1;rw[e]
 refine Stb.block fun x hx y hy=>?_
 rw[List.mem_singleton]at hx hy
 subst hx hy;rw[a1q hj,a1q oM]at hd
 omega
theorem c5O {l m:List α} {j:Nat} (h:Stb l m) (h0:0<j) (hj:j<m.length) (hd:a0u m j<a0u m (j-1)):Stb l (swp m j (j-1)):=by
 obtain⟨q,rfl⟩:∃q,j=q+1:=⟨j-1,oM⟩;exact c9N h hj hd
theorem a7i {a b:Int}:b4A a b<0↔a<b:=by
 unfold b4A
 split
 ·rename_i h;simp[h]
 ·rename_i h;split<;>simp[h]
structure Seg (l m:List α) (a b:Nat):Prop where
 stb:Stb l m
 out:∀k,k<a∨b≤k→m[k]? = l[k]?
 srt:∀p q,a≤p→p<q→q<b→a0u m p≤a0u m q
theorem Seg.one (l:List α) (a:Nat):Seg l l a (a+1):=⟨Stb.refl l,fun _ _=>rfl,fun p q h1 h2 h3=>oM⟩
theorem Seg.none {l:List α} {a b:Nat} (h:b≤a+1):Seg l l a b:=⟨Stb.refl l,fun _ _=>rfl,fun p q h1 h2 h3=>oM⟩
structure Ins (l m:List α) (a i j:Nat):Prop where
 stb:Stb l m
 out:∀k,k<a∨i+1≤k→m[k]? = l[k]?
 srt:∀p q,a≤p→p<q→q≤i→q≠j→a0u m p≤a0u m q
theorem Ins.start {l m:List α} {a i:Nat} (h:Seg l m a i):Ins l m a i i:=⟨h.stb,fun k hk=>h.out k oM,fun p q h1 h2 h3 h4=>h.srt p q h1 h2 oM⟩
theorem Ins.step {l m:List α} {a i j:Nat} (h:Ins l m a i j) (h1:a<j) (h2:j≤i) (h3:i<m.length) (hd:a0u m j<a0u m (j-1)):Ins l (swp m j (j-1)) a i (j-1):=by
 refine⟨c5O h.stb oM oM hd,fun k hk=>?_,fun p q p1 p2 p3 p4=>?_⟩
 ·rw[b0l oM oM,if_neg oM,if_neg oM];exact h.out k hk
 ·rw[c2E oM oM,c2E oM oM];rw[if_neg p4]
  by_cases hq:q=j
  ·subst hq;rw[if_pos rfl]
   by_cases hp:p=q-1
   ·rw[if_pos hp];omega
   ·rw[if_neg hp,if_neg oM];exact h.srt p (q-1) p1 oM oM oM
  ·rw[if_neg hq]
   by_cases hp:p=j-1
   ·rw[if_pos hp];exact h.srt j q oM oM p3 hq
   ·rw[if_neg hp]
    by_cases hp2:p=j
    ·rw[if_pos hp2];exact h.srt (j-1) q oM oM p3 hq
    ·rw[if_neg hp2];exact h.srt p q p1 p2 p3 hq
theorem Ins.done {l m:List α} {a i j:Nat} (h:Ins l m a i j) (h1:a≤j) (h2:j≤i) (hd:j=a∨a0u m (j-1)≤a0u m j):Seg l m a (i+1):=by
 refine⟨h.stb,fun k hk=>h.out k hk,fun p q p1 p2 p3=>?_⟩
 by_cases hq:q=j
 ·subst hq
  rcases hd with hd|hd
  ·omega
  ·rcases Nat.lt_or_ge p (q-1) with hp|hp
   ·exact Int.le_trans (h.srt p (q-1) p1 hp oM oM) hd
   ·obtain rfl:p=q-1:=oM;exact hd
 ·exact h.srt p q p1 p2 oM hq
theorem Seg.len {l m:List α} {a b:Nat} (h:Seg l m a b):m.length=l.length:=h.stb.1.symm
theorem Ins.len {l m:List α} {a i j:Nat} (h:Ins l m a i j):m.length=l.length:=h.stb.1.symm
def c5N (f:Nat→Option α) (a b n k:Nat):Option α:=if a≤k∧k<a+n then f (k-a+b) else if b≤k∧k<b+n then f (k-b+a) else f k
def a8b (f:Nat→Option α) (m i j k:Nat):Option α:=if m-i≤k∧k<m-i+j then f (k+i) else if m-i+j≤k∧k<m+j then f (k-j) else f k
theorem a5D {l:List α} {a b:Nat}:∀(n:Nat),a+n≤b→b+n≤l.length→∀k,(a9e l a b n)[k]? = c5N (l[·]?) a b n k
 |0,_,_,k=>by
  simp only[a9e,c5N]
  rw[if_neg oM,if_neg oM]
 |n+1,h1,h2,k=>by
  have hl:=a3N l a b n;rw[a9e,b0l oM oM];have ih:=a5D n (l:=l) (a:=a) (b:=b) oM oM;rw[ih,ih,ih]
  simp only[c5N]
  repeat' split
  all_goals first
   |(exfalso;omega)
   |rfl
   |(congr 1;omega)
theorem c6V {f g:Nat→Option α} {m i j:Nat} (hm:i≤m) (h:j<i) (hg:∀k,g k=c5N f (m-i) m j k) (k:Nat):a8b g m (i-j) j k=a8b f m i j k:=by
 simp only[a8b,hg,c5N]
 repeat' split
 all_goals first
  |(exfalso;omega)
  |rfl
  |(congr 1;omega)
theorem c6W {f g:Nat→Option α} {m i j:Nat} (hm:i≤m) (h:i<j) (hg:∀k,g k=c5N f (m-i) (m+j-i) i k) (k:Nat):a8b g m i (j-i) k=a8b f m i j k:=by
 simp only[a8b,hg,c5N]
 repeat' split
 all_goals first
  |(exfalso;omega)
  |rfl
  |(congr 1;omega)
theorem c6U {f g:Nat→Option α} {m i:Nat} (hm:i≤m) (hg:∀k,g k=c5N f (m-i) m i k) (k:Nat):g k=a8b f m i i k:=by
 simp only[a8b,hg,c5N]
 repeat' split
 all_goals first
  |(exfalso;omega)
  |rfl
  |(congr 1;omega)
end Go.Sx
set_option linter.all false
namespace Go.Sx
open Go
variable {α:Type} [Day α]
def pc (l:List α) (a b:Nat):List α:=(l.drop a).take (b-a)
theorem b6W {l:List α} {a b:Nat} (k:Nat):(pc l a b)[k]? = if k<b-a then l[a+k]? else none:=by
 rw[pc,List.getElem?_take,List.getElem?_drop]
theorem c6Q {l:List α} {a b:Nat} (h:b≤l.length):(pc l a b).length=b-a:=by rw[pc,List.length_take,List.length_drop];omega
theorem c1X {l:List α} {a b:Nat} {x:α} (hx:x∈pc l a b):∃p,a≤p∧p<b∧l[p]? = some x:=by
 obtain⟨k,hk⟩:=List.getElem?_of_mem hx;rw[b6W]at hk
 split at hk
 ·exact⟨a+k,oM,oM,hk⟩
 ·cases hk
theorem d1H {l:List α} {a b p:Nat} {x:α} (h1:a≤p) (h2:p<b) (hx:l[p]? = some x):x∈pc l a b:=by
 refine List.mem_of_getElem? (i:=p-a) ?_;rw[b6W,if_pos oM,show a+(p-a)=p from by omega];exact hx
theorem d3h {l:List α} {a b:Nat} (h1:a≤b) (h2:b≤l.length):l=l.take a++(pc l a b++l.drop b):=by
 have e:pc l a b++l.drop b=l.drop a:=by
  have:=List.take_append_drop (b-a) (l.drop a);rw[List.drop_drop,show a+(b-a)=b from by omega]at this
  exact this
 rw[e,List.take_append_drop]
theorem b6e {l:List α} {p:Nat} {x:α} (h:l[p]? = some x):a0u l p=Day.day x:=by simp[a0u,h]
theorem c2x {l m:List α} {a b:Nat} (hs:Stb l m) (ho:∀k,k<a∨b≤k→m[k]? = l[k]?) (h1:a≤b) (h2:b≤l.length) {p:Nat} (hp1:a≤p) (hp2:p<b):∃q,a≤q∧q<b∧a0u m p=a0u l q:=by
 have hml:m.length=l.length:=hs.1.symm
 have et:m.take a=l.take a:=by
  apply List.ext_getElem?
  intro k;rw[List.getElem?_take,List.getElem?_take]
  split
  ·exact ho k (.inl oM)
  ·rfl
 have ed:m.drop b=l.drop b:=by
  apply List.ext_getElem?
  intro k;rw[List.getElem?_drop,List.getElem?_drop];exact ho _ (.inr oM)
 have hx:m[p]? = some m[p]:=List.getElem?_eq_getElem oM;obtain⟨y,hy⟩:∃y,y=m[p]:=⟨_,rfl⟩;rw[←hy]at hx
 have key:∀d:Int,(pc m a b).filter (fun e=>decide (Day.day e=d))=(pc l a b).filter (fun e=>decide (Day.day e=d)):=by
  intro d;have hf:=hs.2 d
  rw[show l.filter (fun e=>decide (Day.day e=d))=(l.take a++(pc l a b++l.drop b)).filter (fun e=>decide (Day.day e=d)) from congrArg _ (d3h h1 h2),
   show m.filter (fun e=>decide (Day.day e=d))=(m.take a++(pc m a b++m.drop b)).filter (fun e=>decide (Day.day e=d)) from congrArg _ (d3h h1 oM),et,ed]at hf
  simp only[List.filter_append]at hf
  exact List.append_cancel_right (List.append_cancel_left hf)
 have hmem:y∈(pc m a b).filter (fun e=>decide (Day.day e=Day.day y)):=List.mem_filter.2 ⟨d1H hp1 hp2 hx,by simp⟩;rw[key]at hmem
 obtain⟨hm1,hm2⟩:=List.mem_filter.1 hmem;obtain⟨q,q1,q2,q3⟩:=c1X hm1;exact⟨q,q1,q2,by rw[b6e hx,b6e q3]⟩
theorem c5F {l k:List α} {a m b:Nat} (h1:a≤m) (h2:m≤b) (h3:b≤l.length) (hk:k.length=l.length) (hr:∀q,k[q]? = a8b (l[·]?) m (m-a) (b-m) q):k=l.take a++(pc l m b++(pc l a m++l.drop b)):=by
 apply List.ext_getElem?
 intro q;rw[hr,a8b];have l1:(l.take a).length=a:=by rw[List.length_take];omega
 have l2:=c6Q (l:=l) (a:=m) (b:=b) h3;have l3:=c6Q (l:=l) (a:=a) (b:=m) oM;rw[List.getElem?_append,l1,List.getElem?_append,l2,List.getElem?_append,l3,List.getElem?_take,b6W,b6W,List.getElem?_drop]
 repeat' split
 all_goals first
  |(exfalso;omega)
  |rfl
  |(congr 1;omega)
theorem c9r {l k:List α} {a m b:Nat} (h1:a≤m) (h2:m≤b) (h3:b≤l.length) (hk:k.length=l.length) (hr:∀q,k[q]? = a8b (l[·]?) m (m-a) (b-m) q) (hd:∀p q,a≤p→p<m→m≤q→q<b→a0u l q<a0u l p):Stb l k:=by
 have e:=c5F h1 h2 h3 hk hr
 have e2:l=l.take a++(pc l a m++(pc l m b++l.drop b)):=by
  conv=>lhs;rw[d3h (l:=l) (a:=a) (b:=m) h1 oM]
  congr 2
  have:=d3h (l:=l.drop m) (a:=0) (b:=b-m) oM (by rw[List.length_drop];omega)
  simp only[List.take_zero,List.nil_append,List.drop_drop,show m+(b-m)=b from by omega]at this
  exact this
 rw[e]
 conv=>arg 1;rw[e2]
 refine Stb.block fun x hx y hy=>?_
 obtain⟨p,p1,p2,p3⟩:=c1X hx;obtain⟨q,q1,q2,q3⟩:=c1X hy;have:=hd p q p1 p2 q1 q2;rw[b6e p3,b6e q3]at this
 omega
theorem c9q {l k:List α} {m i j:Nat} (hr:∀q,k[q]? = a8b (l[·]?) m i j q) (q:Nat):a0u k q=if m-i≤q∧q<m-i+j then a0u l (q+i) else if m-i+j≤q∧q<m+j then a0u l (q-j) else a0u l q:=by
 unfold a0u;rw[hr,a8b]
 repeat' split
 all_goals rfl
theorem c5J {l m:List α} {a c b:Nat} (hs:Stb l m) (ho:∀k,k<a∨b≤k→m[k]? = l[k]?) (h1:∀p q,a≤p→p<q→q<c→a0u m p≤a0u m q) (h2:∀p q,c≤p→p<q→q<b→a0u m p≤a0u m q) (h3:∀p q,a≤p→p<c→c≤q→q<b→a0u m p≤a0u m q):Seg l m a b:=
 ⟨hs,ho,fun p q p1 p2 p3=>by
  rcases Nat.lt_or_ge q c with hq|hq
  ·exact h1 p q p1 p2 hq
  ·rcases Nat.lt_or_ge p c with hp|hp
   ·exact h3 p q p1 hp hq p3
   ·exact h2 p q hp p2 p3⟩
def SrtD (l:List α) (a b:Nat):Prop:=∀p q,a≤p→p<q→q<b→a0u l p≤a0u l q
theorem SrtD.le {l:List α} {a b:Nat} (h:SrtD l a b) {p q:Nat} (h1:a≤p) (h2:p≤q) (h3:q<b):a0u l p≤a0u l q:=by
 rcases Nat.lt_or_ge p q with hp|hp
 ·exact h p q h1 hp h3
 ·obtain rfl:p=q:=oM;exact Int.le_refl _
theorem SrtD.sub {l:List α} {a b a' b':Nat} (h:SrtD l a b) (h1:a≤a') (h2:b'≤b):SrtD l a' b':=fun p q p1 p2 p3=>h p q oM p2 oM
theorem SrtD.none {l:List α} {a b:Nat} (h:b≤a+1):SrtD l a b:=fun p q h1 h2 h3=>oM
theorem Seg.toD {l m:List α} {a b:Nat} (h:Seg l m a b):SrtD m a b:=h.srt
structure Rot (l k:List α) (a s m e b:Nat):Prop where
 stb:Stb l k
 out:∀q,q<s∨e≤q→k[q]? = l[q]?
 day:∀q,a0u k q=if s≤q∧q<s+(e-m) then a0u l (q+(m-s)) else if s+(e-m)≤q∧q<e then a0u l (q-(e-m)) else a0u l q
theorem Rot.of {l k:List α} {a s m e b:Nat} (h1:s≤m) (h2:m≤e) (h3:e≤l.length) (hk:k.length=l.length) (hr:∀q,k[q]? = a8b (l[·]?) m (m-s) (e-m) q) (hd:∀p q,s≤p→p<m→m≤q→q<e→a0u l q<a0u l p):Rot l k a s m e b:=by
 refine⟨c9r h1 h2 h3 hk hr hd,fun q hq=>?_,fun q=>?_⟩
 ·rw[hr,a8b,if_neg oM,if_neg oM]
 ·rw[c9q hr,show m-(m-s)=s from oM,show m+(e-m)=e from by omega]
theorem Rot.id {l:List α} {a s m e b:Nat} (h:s=m∨e=m) (h1:s≤m) (h2:m≤e):Rot l l a s m e b:=by
 refine⟨Stb.refl l,fun _ _=>rfl,fun q=>?_⟩
 rcases h with rfl|rfl
 ·split
  ·congr 1;omega
  ·split
   ·exfalso;omega
   ·rfl
 ·split
  ·exfalso;omega
  ·split
   ·congr 1;omega
   ·rfl
theorem Rot.len {l k:List α} {a s m e b:Nat} (h:Rot l k a s m e b):k.length=l.length:=h.stb.1.symm
theorem Rot.p1 {l k:List α} {a s m e b:Nat} (h:Rot l k a s m e b) (h1:SrtD l a m) (g1:s≤m):SrtD k a s:=fun p q p1 p2 p3=>by
 rw[h.day,h.day,if_neg oM,if_neg oM,if_neg oM,if_neg oM];exact h1 p q p1 p2 oM
theorem Rot.p2 {l k:List α} {a s m e b:Nat} (h:Rot l k a s m e b) (h2:SrtD l m b) (g1:s≤m) (g2:m≤e) (g3:e≤b):SrtD k s (s+(e-m)):=fun p q p1 p2 p3=>by
 rw[h.day,h.day,if_pos oM,if_pos oM];exact h2 _ _ oM oM oM
theorem Rot.p3 {l k:List α} {a s m e b:Nat} (h:Rot l k a s m e b) (h1:SrtD l a m) (g0:a≤s) (g1:s≤m) (g2:m≤e):SrtD k (s+(e-m)) e:=fun p q p1 p2 p3=>by
 rw[h.day,h.day,if_neg oM,if_pos oM,if_neg oM,if_pos oM];exact h1 _ _ oM oM oM
theorem Rot.p4 {l k:List α} {a s m e b:Nat} (h:Rot l k a s m e b) (h2:SrtD l m b) (g1:s≤m) (g2:m≤e):SrtD k e b:=fun p q p1 p2 p3=>by
 rw[h.day,h.day,if_neg oM,if_neg oM,if_neg oM,if_neg oM];exact h2 p q oM p2 p3
theorem Rot.cross {l k:List α} {a s m e b:Nat} (h:Rot l k a s m e b) (h1:SrtD l a m) (h2:SrtD l m b) (g0:a≤s) (g1:s≤m) (g2:m≤e) (g3:e≤b)
  (hx:∀p q,s≤p→p<m→m≤q→q<e→a0u l q<a0u l p) (hy:∀p q,a≤p→p<s→e≤q→q<b→a0u l p≤a0u l q) (p q:Nat) (p1:a≤p) (p2:p<s+(e-m)) (q1:s+(e-m)≤q) (q2:q<b):a0u k p≤a0u k q:=by
 rw[h.day p,h.day q]
 by_cases hp:s≤p
 ·rw[if_pos ⟨hp,p2⟩]
  by_cases hq:q<e
  ·rw[if_neg oM,if_pos ⟨q1,hq⟩];exact Int.le_of_lt (hx _ _ oM oM oM oM)
  ·rw[if_neg oM,if_neg oM];exact h2.le oM oM q2
 ·rw[if_neg oM,if_neg oM]
  by_cases hq:q<e
  ·rw[if_neg oM,if_pos ⟨q1,hq⟩];exact h1.le p1 oM oM
  ·rw[if_neg oM,if_neg oM];exact hy p q p1 oM oM q2
theorem Rot.done {l k k1 k2:List α} {a s m e b c:Nat} (h:Rot l k a s m e b) (h1:SrtD l a m) (h2:SrtD l m b) (g0:a≤s) (g1:s≤m) (g2:m≤e) (g3:e≤b) (g4:b≤l.length) (hc:s+(e-m)=c)
  (hx:∀p q,s≤p→p<m→m≤q→q<e→a0u l q<a0u l p) (hy:∀p q,a≤p→p<s→e≤q→q<b→a0u l p≤a0u l q) (s1:Seg k k1 a c) (s2:Seg k1 k2 c b):Seg l k2 a b:=by
 subst hc;have hl:=h.len;have hl1:=s1.len;have d1:∀p,p<s+(e-m)→k2[p]? = k1[p]?:=fun p hp=>s2.out p (.inl hp)
 have d2:∀p,s+(e-m)≤p→k1[p]? = k[p]?:=fun p hp=>s1.out p (.inr hp)
 have e1:∀p,p<s+(e-m)→a0u k2 p=a0u k1 p:=fun p hp=>by unfold a0u;rw[d1 p hp]
 refine c5J (c:=s+(e-m)) (h.stb.trans (s1.stb.trans s2.stb)) (fun q hq=>?_) (fun p q p1 p2 p3=>?_) (fun p q p1 p2 p3=>s2.srt p q p1 p2 p3) fun p q p1 p2 p3 p4=>?_
 ·rw[s2.out q oM,s1.out q oM,h.out q oM]
 ·rw[e1 p oM,e1 q p3];exact s1.srt p q p1 p2 p3
 ·rw[e1 p p2];obtain⟨p',a1,a2,a3⟩:=c2x s1.stb s1.out oM oM p1 p2;obtain⟨q',b1,b2,b3⟩:=c2x s2.stb s2.out oM oM p3 p4;have:a0u k1 q'=a0u k q':=by unfold a0u;rw[d2 q' b1]
  rw[a3,b3,this];exact h.cross h1 h2 g0 g1 g2 g3 hx hy p' q' a1 a2 b1 b2
def bub (l:List α) (a:Nat):Nat→List α
 |0=>l
 |k+1=>swp (bub l a k) (a+k) (a+k+1)
theorem a9q (l:List α) (a:Nat):∀k,(bub l a k).length=l.length
 |0=>rfl
 |k+1=>by rw[bub,b5L,a9q l a k]
theorem b9I {l:List α} {a:Nat}:∀(n:Nat),a+n<l.length→∀k,(bub l a n)[k]? = a8b (l[·]?) (a+1) 1 n k
  | 0, _, k => by simp only [bub, a8b]; rw [if_neg oM]; split; · congr 1
                  · rfl
  |n+1,h,k=>by
    have hl:=a9q l a n;rw[bub,b0l oM oM];have ih:=b9I n (l:=l) (a:=a) oM;rw[ih,ih,ih]
    simp only[a8b]
    repeat' split
    all_goals first
      |(exfalso;omega)
      |rfl
      |(congr 1;omega)
def bud (l:List α) (m:Nat):Nat→List α
 |0=>l
 |k+1=>swp (bud l m k) (m-k) (m-k-1)
theorem a9r (l:List α) (m:Nat):∀k,(bud l m k).length=l.length
 |0=>rfl
 |k+1=>by rw[bud,b5L,a9r l m k]
theorem b9J {l:List α} {m:Nat} (hm:m<l.length):∀(n:Nat),n≤m→∀k,(bud l m n)[k]? = a8b (l[·]?) m n 1 k
  | 0, _, k => by simp only [bud, a8b]; split; · congr 1
                  · split
                    · exfalso;omega
                    · rfl
  |n+1,h,k=>by
    have hl:=a9r l m n;rw[bud,b0l oM oM];have ih:=b9J hm n oM;rw[ih,ih,ih]
    simp only[a8b]
    repeat' split
    all_goals first
      |(exfalso;omega)
      |rfl
      |(congr 1;omega)
theorem b6C {l:List α} {a b i:Nat} (hs:SrtD l (a+1) b) (h1:a+1≤i) (h2:i≤b) (h3:b≤l.length) (hlo:∀q,a+1≤q→q<i→a0u l q<a0u l a) (hhi:∀q,i≤q→q<b→a0u l a≤a0u l q):Seg l (bub l a (i-1-a)) a b:=by
  have hR:Rot l (bub l a (i-1-a)) a a (a+1) i b:=Rot.of oM h1 oM (a9q _ _ _) (fun q=>by rw[b9I _ oM];congr 1<;>omega)
    (fun p q p1 p2 p3 p4 => by obtain rfl : p = a := oM
                               exact hlo q p3 p4)
  refine⟨hR.stb,fun k hk=>hR.out k oM,fun p q p1 p2 p3=>?_⟩;rw[hR.day p,hR.day q]
  by_cases hp:p<i-1
  · rw[if_pos oM]
    by_cases hq:q<i-1
    · rw[if_pos oM];exact hs _ _ oM oM oM
    · by_cases hq2:q=i-1
      · rw[if_neg oM,if_pos oM,show q-(i-(a+1))=a from by omega];exact Int.le_of_lt (hlo _ oM oM)
      · rw[if_neg oM,if_neg oM];exact hs _ _ oM oM oM
  · by_cases hp2:p=i-1
    · rw[if_neg oM,if_pos oM,if_neg oM,if_neg oM,show p-(i-(a+1))=a from by omega];exact hhi _ oM p3
    · rw[if_neg oM,if_neg oM,if_neg oM,if_neg oM];exact hs _ _ oM oM oM
theorem b0Z {l:List α} {a m i:Nat} (hs:SrtD l a m) (h1:a≤i) (h2:i≤m) (h3:m<l.length) (hlo:∀q,a≤q→q<i→a0u l q≤a0u l m) (hhi:∀q,i≤q→q<m→a0u l m<a0u l q):Seg l (bud l m (m-i)) a (m+1):=by
  have hR:Rot l (bud l m (m-i)) a i m (m+1) (m+1):=Rot.of h2 oM oM (a9r _ _ _) (fun q=>by rw[b9J h3 _ oM];congr 1;omega)
    (fun p q p1 p2 p3 p4 => by obtain rfl : q = m := oM
                               exact hhi p p1 p2)
  refine⟨hR.stb,fun k hk=>hR.out k oM,fun p q p1 p2 p3=>?_⟩;rw[hR.day p,hR.day q]
  by_cases hp:p<i
  · rw[if_neg oM,if_neg oM]
    by_cases hq:q<i
    · rw[if_neg oM,if_neg oM];exact hs _ _ oM oM oM
    · by_cases hq2:q=i
      · rw[if_pos oM,show q+(m-i)=m from by omega];exact hlo _ oM oM
      · rw[if_neg oM,if_pos oM];exact hs _ _ oM oM oM
  · by_cases hp2:p=i
    · rw[if_pos oM,if_neg oM,if_pos oM,show p+(m-i)=m from by omega];exact Int.le_of_lt (hhi _ oM oM)
    · rw[if_neg oM,if_pos oM,if_neg oM,if_pos oM];exact hs _ _ oM oM oM
theorem Seg.refl' {k:List α} {a c:Nat} (h:SrtD k a c):Seg k k a c:=⟨Stb.refl k,fun _ _=>rfl,h⟩
theorem Rot.left {l k:List α} {a s m e b c:Nat} (h:Rot l k a s m e b) (h1:SrtD l a m) (h2:SrtD l m b) (g1:s≤m) (g2:m≤e) (g3:e≤b) (hc:s+(e-m)=c) (hn:¬(a<s∧s<c)) (g0:a≤s):SrtD k a c:=by
 subst hc
 by_cases hs:a=s
 ·subst hs;exact h.p2 h2 g1 g2 g3
 ·exact (h.p1 h1 g1).sub (Nat.le_refl _) oM
theorem Rot.right {l k:List α} {a s m e b c:Nat} (h:Rot l k a s m e b) (h1:SrtD l a m) (h2:SrtD l m b) (g0:a≤s) (g1:s≤m) (g2:m≤e) (hc:s+(e-m)=c) (hn:¬(c<e∧e<b)) (g3:e≤b):SrtD k c b:=by
 subst hc
 by_cases hs:e=b
 ·subst hs;exact h.p3 h1 g0 g1 g2
 ·exact (h.p4 h2 g1 g2).sub oM (Nat.le_refl _)
theorem Seg.keepD {k k1:List α} {a c p q:Nat} (h:Seg k k1 a c) (hc:c≤p) (hs:SrtD k p q):SrtD k1 p q:=fun x y h1 h2 h3=>by
 have e:∀z,c≤z→a0u k1 z=a0u k z:=fun z hz=>by unfold a0u;rw[h.out z (.inr hz)]
 rw[e x oM,e y oM];exact hs x y h1 h2 h3
theorem c2y {l:List α} {a m b c S R s:Nat} (m1:SrtD l a m) (m2:SrtD l m b) (ham:a<m) (hmb:m<b) (hc:c=(a+b) / 2) (hS:(c<m∧S=c+m-b∧R=c)∨(m≤c∧S=a∧R=m)) (hs1:S≤s) (hs2:s≤R)
  (lo:∀q,S≤q→q<s→a0u l q≤a0u l (c+m-1-q)) (hi:∀q,s≤q→q<R→a0u l (c+m-1-q)<a0u l q) :
  (∀p q,s≤p→p<m→m≤q→q<c+m-s→a0u l q<a0u l p)∧(∀p q,a≤p→p<s→c+m-s≤q→q<b→a0u l p≤a0u l q):=by
 refine⟨fun p q p1 p2 q1 q2=>?_,fun p q p1 p2 q1 q2=>?_⟩
 ·have hlt:s<R:=oM;have h1:=hi s (Nat.le_refl _) hlt;have h2:=m1.le (p:=s) (q:=p) oM p1 p2;have h3:=m2.le (p:=q) (q:=c+m-1-s) q1 oM oM
  omega
 ·have hlt:S<s:=oM;have h1:=lo (s-1) oM oM;have h2:=m1.le (p:=p) (q:=s-1) p1 oM oM;have h3:=m2.le (p:=c+m-1-(s-1)) (q:=q) oM oM q2
  omega
theorem c7a {l:List α} {a m b c S R r h:Nat} (m1:SrtD l a m) (m2:SrtD l m b) (ham:a<m) (hmb:m<b) (hc:c=(a+b) / 2) (hS:(c<m∧S=c+m-b∧R=c)∨(m≤c∧S=a∧R=m)) (h1:S≤h) (h2:h<r) (h3:r≤R)
  (hd:a0u l h≤a0u l (c+m-1-h)) (q:Nat) (q1:S≤q) (q2:q<h+1):a0u l q≤a0u l (c+m-1-q):=by
 have e1:=m1.le (p:=q) (q:=h) oM oM oM;have e2:=m2.le (p:=c+m-1-h) (q:=c+m-1-q) oM oM oM
 omega
theorem c6Z {l:List α} {a m b c S R s h:Nat} (m1:SrtD l a m) (m2:SrtD l m b) (ham:a<m) (hmb:m<b) (hc:c=(a+b) / 2) (hS:(c<m∧S=c+m-b∧R=c)∨(m≤c∧S=a∧R=m)) (h1:S≤s) (h2:s≤h) (h3:h<R)
  (hd:a0u l (c+m-1-h)<a0u l h) (q:Nat) (q1:h≤q) (q2:q<R):a0u l (c+m-1-q)<a0u l q:=by
 have e1:=m1.le (p:=h) (q:=q) oM oM oM;have e2:=m2.le (p:=c+m-1-q) (q:=c+m-1-h) oM oM oM
 omega
theorem c0d {l:List α} {i j:Nat} {hi:i<l.length} {hj:j<l.length} (h:b4A (Day.day l[i]) (Day.day l[j])<0):a0u l i<a0u l j:=by
 rw[a7i]at h;rw[a1q hi,a1q hj];exact h
theorem c0c {l:List α} {i j:Nat} {hi:i<l.length} {hj:j<l.length} (h:¬b4A (Day.day l[i]) (Day.day l[j])<0):a0u l j≤a0u l i:=by
 rw[a7i]at h;rw[a1q hi,a1q hj];omega
end Go.Sx
set_option linter.all false
namespace Go.Sx
open Go
variable {α:Type} [Day α]
inductive Pre (l:List α) (q:Nat):Nat→Prop
 |zero:Pre l q 0
 |snoc {a:Nat}:Pre l q a→SrtD l a (a+q)→Pre l q (a+q)
inductive Blk (l:List α) (q n:Nat):Nat→Prop
 |done {s:Nat}:n≤s→Blk l q n s
 |step {s:Nat}:SrtD l s (min (s+q) n)→Blk l q n (s+q)→Blk l q n s
theorem SrtD.same {l m:List α} {a b:Nat} (h:SrtD l a b) (he:∀k,a≤k→k<b→m[k]? = l[k]?):SrtD m a b:=fun p q p1 p2 p3=>by
 have e:∀z,a≤z→z<b→a0u m z=a0u l z:=fun z h1 h2=>by unfold a0u;rw[he z h1 h2]
 rw[e p p1 oM,e q oM p3];exact h p q p1 p2 p3
theorem Pre.same {l m:List α} {q a:Nat} (h:Pre l q a) (he:∀k,k<a→m[k]? = l[k]?):Pre m q a:=by
 induction h with
 |zero=>exact .zero
 |snoc h1 h2 ih=>exact .snoc (ih fun k hk=>he k oM) (h2.same fun k _ hk=>he k hk)
theorem Blk.same {l m:List α} {q n s:Nat} (h:Blk l q n s) (he:∀k,s≤k→k<n→m[k]? = l[k]?):Blk m q n s:=by
 induction h with
 |done h=>exact .done h
 |step h1 h2 ih=>exact .step (h1.same fun k h3 h4=>he k h3 oM) (ih fun k hk hk2=>he k oM hk2)
theorem Pre.blk {l:List α} {q n a:Nat} (h:Pre l q a) (han:a≤n) (hb:Blk l q n a):Blk l q n 0:=by
 induction h with
 |zero=>exact hb
 |snoc h1 h2 ih=>exact ih oM (.step (h2.sub (Nat.le_refl _) oM) hb)
theorem Pre.put {l m:List α} {q a:Nat} (h:Pre l q a) (hs:Seg l m a (a+q)):Pre m q (a+q):=.snoc (h.same fun k hk=>hs.out k (.inl hk)) hs.srt
theorem Pre.last {l m:List α} {q a n:Nat} (h:Pre l q a) (hs:Seg l m a n) (han:a≤n) (hq:n<a+q):Blk m q n 0:=
 (h.same fun k hk=>hs.out k (.inl hk)).blk han (.step (hs.toD.sub (Nat.le_refl _) oM) (.done oM))
theorem Blk.two {l:List α} {q n s:Nat} (h:Blk l q n s) (hs:s+2 * q≤n) (hq:1≤q):SrtD l s (s+q)∧SrtD l (s+q) (s+2 * q)∧Blk l q n (s+2 * q):=by
 cases h with
 |done h=>omega
 |step h1 h2=>cases h2 with
  |done h=>omega
  |step h3 h4=>exact⟨h1.sub (Nat.le_refl _) oM,h3.sub (Nat.le_refl _) oM,by rw[show s+2 * q=s+q+q from by omega];exact h4⟩
theorem Blk.one {l:List α} {q n s:Nat} (h:Blk l q n s) (hs:s+q<n):SrtD l s (s+q)∧(n≤s+2 * q→SrtD l (s+q) n):=by
 cases h with
 |done h=>omega
 |step h1 h2=>cases h2 with
  |done h=>omega
  |step h3 h4=>exact⟨h1.sub (Nat.le_refl _) oM,fun h=>h3.sub (Nat.le_refl _) oM⟩
theorem Blk.all {l:List α} {q n s:Nat} (h:Blk l q n s) (hs:n≤s+q):SrtD l s n:=by
 cases h with
 |done h=>exact SrtD.none oM
 |step h1 h2=>exact h1.sub (Nat.le_refl _) oM
def b4p (l:List α):Prop:=l.Pairwise fun x y=>Day.day x≤Day.day y
theorem SrtD.pw {l:List α} (h:SrtD l 0 l.length):b4p l:=by
 rw[b4p,List.pairwise_iff_getElem];intro i j hi hj hij;have:=h i j (Nat.zero_le _) hij hj
 rwa[a1q hi,a1q hj]at this
theorem c2A:∀(m m':List α),b4p m→b4p m'→(∀d:Int,m.filter (fun e=>decide (Day.day e=d))=m'.filter (fun e=>decide (Day.day e=d)))→m=m':=by
 intro m
 induction m with
 |nil=>
  intro m' _ _ h
  cases m' with
  |nil=>rfl
  |cons y r=>have:=h (Day.day y);simp at this
 |cons x r ih=>
  intro m' h1 h2 h
  cases m' with
  |nil=>have:=h (Day.day x);simp at this
  |cons y r'=>
   unfold b4p at h1 h2
   rw[List.pairwise_cons]at h1 h2
   have hx:x∈(y::r'):=by
    have:x∈(y::r').filter (fun e=>decide (Day.day e=Day.day x)):=by rw[←h];simp
    exact (List.mem_filter.1 this).1
   have hy:y∈(x::r):=by
    have:y∈(x::r).filter (fun e=>decide (Day.day e=Day.day y)):=by rw[h];simp
    exact (List.mem_filter.1 this).1
   have d1:Day.day y≤Day.day x:=by
    rcases List.mem_cons.1 hx with e|hx
    ·rw[e];exact Int.le_refl _
    ·exact h2.1 x hx
   have d2:Day.day x≤Day.day y:=by
    rcases List.mem_cons.1 hy with e|hy
    ·rw[e];exact Int.le_refl _
    ·exact h1.1 y hy
   have hd:Day.day y=Day.day x:=Int.le_antisymm d1 d2;have h0:=h (Day.day x)
   simp only[List.filter_cons,hd,decide_true,if_true,List.cons.injEq]at h0
   obtain⟨rfl,h0⟩:=h0
   congr 1
   refine ih r' h1.2 h2.2 fun d=>?_
   have h3:=h d
   simp only[List.filter_cons]at h3
   split at h3
   ·simpa using h3
   ·exact h3
def a8B (e:α):List α→List α
 | []=>[e]
 |x::r=>if Day.day e≤Day.day x then e::x::r else x::a8B e r
def a0Q (l:List α):List α:=l.foldr a8B []
theorem b6p {e y:α}:∀{l:List α},y∈a8B e l↔y=e∨y∈l
 | []=>by simp[a8B]
 |x::r=>by
  simp only[a8B]
  split
  ·simp
  ·simp only[List.mem_cons,b6p (l:=r)]
   constructor
   ·rintro (h|h|h)
    ·exact .inr (.inl h)
    ·exact .inl h
    ·exact .inr (.inr h)
   ·rintro (h|h|h)
    ·exact .inr (.inl h)
    ·exact .inl h
    ·exact .inr (.inr h)
theorem b6q {e:α}:∀{l:List α},b4p l→b4p (a8B e l)
 | [],_=>by simp[a8B,b4p]
 |x::r,h=>by
  unfold b4p at h
  have h':=List.pairwise_cons.1 h
  simp only[a8B]
  split
  ·rename_i hd
   refine List.pairwise_cons.2 ⟨fun y hy=>?_,h⟩
   rcases List.mem_cons.1 hy with rfl|hy
   ·exact hd
   ·exact Int.le_trans hd (h'.1 y hy)
  ·rename_i hd
   refine List.pairwise_cons.2 ⟨fun y hy=>?_,b6q h'.2⟩
   rcases b6p.1 hy with rfl|hy
   ·omega
   ·exact h'.1 y hy
theorem b6n (e:α):∀l:List α,(a8B e l).length=l.length+1
  | []=>rfl
  | x :: r => by simp only [a8B]; split; · simp
                 · simp[b6n e r]
theorem a9G (e:α) (d:Int):∀l:List α,(a8B e l).filter (fun e=>decide (Day.day e=d))=(e::l).filter (fun e=>decide (Day.day e=d))
 | []=>rfl
 |x::r=>by
  simp only[a8B]
  split
  ·rfl
  ·rename_i hd
   rw[List.filter_cons,a9G e d r]
   simp only[List.filter_cons]
   by_cases h1:Day.day x=d
   ·by_cases h2:Day.day e=d
    ·omega
    ·simp[h1,h2]
   ·simp[h1]
theorem a5n:∀l:List α,b4p (a0Q l)
 | []=>List.Pairwise.nil
 |x::r=>b6q (a5n r)
theorem a3X:∀l:List α,(a0Q l).length=l.length
 | []=>rfl
 |x::r=>(b6n x (a0Q r)).trans (by rw[a3X r];rfl)
theorem a3W (d:Int):∀l:List α,(a0Q l).filter (fun e=>decide (Day.day e=d))=l.filter (fun e=>decide (Day.day e=d))
 | []=>rfl
 |x::r=>(a9G x d (a0Q r)).trans (by rw[List.filter_cons,List.filter_cons,a3W d r])
theorem b7A {l m:List α} (h:Stb l m) (hs:b4p m):m=a0Q l:=c2A m _ hs (a5n l) fun d=>by rw[h.2 d,a3W]
theorem a4B {l:List α} {x:α}:x∈a0Q l↔x∈l:=by
 have h:∀(m:List α),x∈m↔x∈m.filter (fun e=>decide (Day.day e=Day.day x)):=fun m=>by simp
 rw[h,a3W,←h]
section
variable {P:Program} {n:Sz} {E:Ent} {I:IMap} {L:LL} {H:List Res} {K:Act→World→Prop}
theorem c2J {g e k m:Nat} {xss:List (List Value)} (hU:Uk k xss) (hm:xss.length=m) (hl:m≤maxLen) (h:SX n E I L (.row (.slice (some ⟨g,0,none⟩) m m) e k m xss.flatten::H) K):SX n E I L (.blk g e xss.flatten::H) K:=by
 have:=a2q (rest:=[]) hU (fun c hc=>(by cases hc)) hm (by simp) hl h
 simpa using this
end
end Go.Sx
set_option linter.all false
namespace Go.Sx
open Go
def d0C (P:Program) (l:Nat) (args:List Value) (I:IMap) (H:List Res) (post:Value→IMap→List Res→Prop):Prop:=
 ∀w,Mem ⟨a2e H,I,w⟩ I H w→After P (Instr.yield l args.toArray) w (a8F ⟨a2e H,I,w⟩ post)
def a6L {α:Type} (P:Program) (l:Nat) (rd:IMap→List Value→α→Prop) (ok:List α→α→Prop) (J:Bool→List α→IMap→List Res→Prop):Prop:=
 ∀pre x vs I H,J true pre I H→rd I vs x→ok pre x→d0C P l vs I H fun u I' H'=>∃b,u = .bool b∧J b (pre++[x]) I' H'
def c3x {α:Type} (J:Bool→List α→IMap→List Res→Prop):Prop:=∀b pre I I' H,ILe I I'→J b pre I H→J b pre I' H
def d3e {α:Type} (P:Program) (f:FuncId) (cap:List Value) (I0:IMap) (rd:IMap→List Value→α→Prop) (ok:List α→α→Prop) (full part:List α→Prop):Prop:=
 ∀(l:Nat) (J:Bool→List α→IMap→List Res→Prop) (I:IMap) (Hc:List Res),ILe I0 I→c3x J→a6L P l rd ok J→J true [] I Hc →
  FnH P f (.func (.yield l) #[] #[]::cap).toArray I Hc fun _ I' H'=>∃b pre,J b pre I' H'∧(if b then full pre else part pre)
section
variable {P:Program} {ρ:Option Nat} {n:Sz} {E:Ent} {I I':IMap} {L:LL} {H:List Res} {Q:Exit→Act→World→Prop} {ops:Array Oper} {K:Act→World→Prop}
variable {d ty:Nat} {pos:String} {af:Array Edge}
theorem b0I {a:Act} {w:World} {fo:Operand} {as_:List Operand} {ats:Array TypeId} {l:Nat} {args:List Value} (s:St n a L) (hf:ev L fo=some (.func (.yield l) #[] #[])) (ha:evs L as_=some args) (o:Oper)
  (ho:o.op = .call { callee:=.value fo,args:=as_.toArray,argTypes:=ats }):(execOp a.eval o).run P w=(Instr.yield l args.toArray).run P w:=by
 have ha':as_.toArray.map a.eval=args.toArray:=by rw[←a6m s as_ args ha];simp
 simp only[execOp,ho,resolve,ha',s.ev hf,Deferred.ofValue,Sem.run_bind,Sem.run_pure,Result.andThen_ok,invoke]
 congr 1
 congr 1
 simp
theorem c1P {α:Type} {l:Nat} {rd:IMap→List Value→α→Prop} {ok:List α→α→Prop} {J:Bool→List α→IMap→List Res→Prop} {Hc:List Res} {fo:Operand} {as_:List Operand} {ats:Array TypeId} {vs:List Value} {pre:List α} {x:α}
  (hy:a6L P l rd ok J) (hJ:J true pre I Hc) (hr:rd I vs x) (hk:ok pre x) (hf:ev L fo=some (.func (.yield l) #[] #[])) (ha:evs L as_=some vs) (hd:Nat.blt d n.sz=true)
  (k:∀b I' Hc',ILe I I'→J b (pre++[x]) I' Hc'→SX n E I' ((d,.bool b)::L) (H++Hc') K) :
  SX n E I L (H++Hc) (one P ops Q ⟨some d,.call { callee:=.value fo,args:=as_.toArray,argTypes:=ats },ty,pos,af,none⟩ K):=by
 refine a4e List.perm_append_comm ?_;refine b5f (hy pre x vs I Hc hJ hr hk) (fun a w s=>b0I s hf ha _ rfl) hd fun v I' H' hI hp=>?_
 obtain⟨b,rfl,hp⟩:=hp;exact a4e List.perm_append_comm (k b I' H' hI hp)
def putAll:List (Nat×Value)→LL→LL
 | [],L=>L
 |(i,v)::r,L=>putAll r ((i,v)::L)
theorem St.putAll {k:Nat}:∀(ps:List (Nat×Value)) {a:Act} {L:LL},St ⟨k,[]⟩ a L→(∀p∈ps,p.1<k)→St ⟨k,[]⟩ { a with tmps:=ps.foldl (fun t p=>t.setIfInBounds p.1 p.2) a.tmps } (putAll ps L)
 | [],_,_,s,_=>s
 |(i,v)::r,a,L,s,h=>by
  have hi:i<k:=h (i,v) (by simp);have s1:St ⟨k,[]⟩ (a.put (some i) v) ((i,v)::L):=s.put (by simpa[Nat.blt_eq]using hi);exact St.putAll r s1 (fun p hp=>h p (by simp[hp]))
structure Rec where
 l:Nat
 D:Nat
 ready:Loop
 hs:ready.state = .ready
 hp:ready.pending=none
def Rec.busy (r:Rec):Loop:={ r.ready with state:=.busy }
def Rec.done (r:Rec) (c:Code):Loop:={ r.ready with state:=.done,pending:=some c }
def Rec.mark (r:Rec):Res:=.any r.D (.deferred (some []))
def JR {α σ:Type} (I0:IMap) (r:Rec) (Hx:σ→List Res) (p:List α→IMap→σ→Prop) (px:List α→IMap→σ→Code→Prop):Bool→List α→IMap→List Res→Prop
 |true,pre,I,H=>∃s,H = .any r.l (.loop r.ready)::r.mark::Hx s∧ILe I0 I∧p pre I s
 |false,pre,I,H=>∃s c,H = .any r.l (.loop (r.done c))::r.mark::Hx s∧ILe I0 I∧px pre I s c
def d3r {α σ:Type} (P:Program) (E:Ent) (I0:IMap) (r:Rec) (Hx:σ→List Res) (p:List α→IMap→σ→Prop) (px:List α→IMap→σ→Code→Prop) (pre:List α):Exit→Act→World→Prop:=
 roundPost P r.l (a8F E fun u I' H'=>∃b,u = .bool b∧JR I0 r Hx p px b pre I' H')
def c6r (P:Program) (r:Rec) (body:Code) (R:Exit→Act→World→Prop):Exit→Act→World→Prop:=
 Exit.then (fun a w=>∃w',(Instr.beginRound r.l).run P w = .ok () w'∧body.wq (some r.l) P R a w') (fun _ _ _=>False)
variable {α σ:Type} {I0:IMap} {r:Rec} {Hx:σ→List Res} {p:List α→IMap→σ→Prop} {px:List α→IMap→σ→Code→Prop} {pre:List α}
theorem a6h {w:World} {o o':Loop} {l:Nat} (m:Mem E I (.any l (.loop o)::H) w):Mem E I (.any l (.loop o')::H) (w.putObj l (.loop o')):=by
 have hr:w.heap[l]? = some (.loop o):=m.holds _ (List.mem_cons_self ..);have hlt:l<w.heap.size:=(Array.getElem?_eq_some_iff.1 hr).1;exact m.step rfl ⟨rfl,Nat.le_refl _⟩ rfl (by simp) (fun k hk hne=>World.putObj_heap_other (fun e=>hne (by subst e;rfl))) (World.putObj_heap_same hlt) (fun g hg=>.inl hg)
theorem b2t {body:Code} {R:Exit→Act→World→Prop} (h:SX n E I L (.any r.l (.loop r.busy)::H) (body.wq (some r.l) P R)):SX n E I L (.any r.l (.loop r.ready)::H) (c6r P r body R .normal):=by
 intro a w s m;have hl:w.heap[r.l]? = some (.loop r.ready):=m.holds _ (List.mem_cons_self ..);exact⟨_,run_beginRound hl r.hs,h a _ s (a6h m)⟩
theorem b1j (s':σ) (hI:ILe I0 I) (hp:p pre I s') (hH:H=Hx s'):SX n E I L (.any r.l (.loop r.busy)::r.mark::H) (d3r P E I0 r Hx p px pre .normal):=by
 subst hH;intro a w s m;have hl:w.heap[r.l]? = some (.loop r.busy):=m.holds _ (List.mem_cons_self ..);refine⟨_,_,run_endRound none hl,.bool true,I,_,rfl,a6h m,true,rfl,s',?_,hI,hp⟩
 have:(({ r.busy with state:=if (none:Option Code).isNone=true then .ready else .done,pending:=none }:Loop))=r.ready:=by
  have h1:=r.hs;have h2:=r.hp
  unfold Rec.busy
  cases hr:r.ready
  rw[hr]at h1 h2
  simp only at h1 h2
  subst h1 h2
  rfl
 rw[this]
theorem d2v {c:Code} (s':σ) (hI:ILe I0 I) (hp:px pre I s' c) (hH:H=Hx s') {a:Act} {w:World} (m:Mem E I (.any r.l (.loop r.busy)::r.mark::H) w) :
  ∃v w',(Instr.endRound r.l (some c)).run P w = .ok v w'∧a8F E (fun u I' H'=>∃b,u = .bool b∧JR I0 r Hx p px b pre I' H') (.returned v) w':=by
 subst hH;have hl:w.heap[r.l]? = some (.loop r.busy):=m.holds _ (List.mem_cons_self ..);exact⟨_,_,run_endRound (some c) hl,.bool false,I,_,rfl,a6h m,false,rfl,s',c,rfl,hI,hp⟩
theorem d2u {id:Nat} (s':σ) (hI:ILe I0 I) (hp:px pre I s' (.exit id)) (hH:H=Hx s'):SX n E I L (.any r.l (.loop r.busy)::r.mark::H) (d3r P E I0 r Hx p px pre (.exit id)):=fun _ _ _ m=>d2v (a:=⟨#[],[]⟩) s' hI hp hH m
theorem b1K {k gf:Nat} {D:List Mk} {H0:List Res} {g:Operand} {ps:List Nat} {assign body:Code} {cap:List Value} {rd:IMap→List Value→α→Prop} {ok:List α→α→Prop} {full part:List α→Prop}
  (s0:σ) (Hx:σ→List Res) (p:List α→IMap→σ→Prop) (px:List α→IMap→σ→Code→Prop)
  (hg:ev L g=some (.func (.func gf) #[] cap.toArray)) (hcall:∀(args:Array Value) (w:World),(callFunc gf args).run P w = .ok (.enter gf args) w)
  (hit:d3e P gf cap I rd ok full part) (hlen:∀I vs x,rd I vs x→vs.length=ps.length) (hps:ps.all (fun i=>Nat.blt i k)=true)
  (hmp:∀pre I I' s,ILe I I'→p pre I s→p pre I' s) (hmx:∀pre I I' s c,ILe I I'→px pre I s c→px pre I' s c)
  (h0:p [] I s0) (hH:Hx s0++H0=H)
  (round:∀(r:Rec) (E1:Ent) pre x vs I1 s,ILe I I1→p pre I1 s→rd I1 vs x→ok pre x →
   SX ⟨k,[]⟩ E1 I1 (putAll (ps.zip vs) L) (.any r.l (.loop r.ready)::r.mark::Hx s) (assign.wq (some r.l) P (c6r P r body (d3r P E1 I r Hx p px (pre++[x])))))
  (hdone:∀D' pre I1 s,ILe I I1→full pre→p pre I1 s→SX ⟨k,.m D'::D⟩ E I1 L (.any D' (.deferred (some []))::(Hx s++H0)) (Q .normal))
  (hstop:∀D' pre I1 s c,ILe I I1→part pre→px pre I1 s c→SX ⟨k,.m D'::D⟩ E I1 L (.any D' (.deferred (some []))::(Hx s++H0)) (c.wq none P Q)) :
  SX ⟨k,D⟩ E I L H ((Code.rangeFunc g ps.toArray assign body).wq none P Q):=by
 subst hH;intro a w s m;refine wpIn_rangeFunc ?_;intro fn _;obtain⟨rec,hrec⟩:∃rec:Loop,rec = { state:=.ready,pending:=none,fn,tmps:=a.tmps,params:=ps.toArray,assign,body,defers:=w.heap.size }:=⟨_,rfl⟩;obtain⟨W1,hW1⟩:∃W1,(w.alloc (.deferred (some []))).alloc (.loop rec)=W1:=⟨_,rfl⟩;obtain⟨r,hr⟩:∃r:Rec,r=⟨w.heap.size+1,w.heap.size,rec,by rw[hrec],by rw[hrec]⟩:=⟨_,rfl⟩;have hrl:r.l=w.heap.size+1:=by rw[hr]
 have hrD:r.D=w.heap.size:=by rw[hr]
 have hrr:r.ready=rec:=by rw[hr]
 have hevg:a.eval g = .func (.func gf) #[] cap.toArray:=s.ev hg
 refine⟨w.heap.size+1,[{ target:=.collected w.heap.size,args:=#[] }],W1,{ target:=.fn (.func gf) cap.toArray,args:=#[.func (.yield (w.heap.size+1)) #[] #[]] },W1,gf,
  #[.func (.yield (w.heap.size+1)) #[] #[]]++cap.toArray,W1,?_,?_,fun _ _=>trivial,?_,fun h=>by simp[fen,Fence.wide]at h,?_⟩
 ·rw[←hW1,hrec];exact run_enterLoop_outer _ _ _ _ _
 ·simp only[resolve,hevg]
  simp[go_sem]
 ·simp[invoke,go_sem,hcall]
 have m1:Mem E I (.any r.D (.deferred (some []))::(Hx s0++H0)) (w.alloc (.deferred (some []))):=by
  rw[hrD];exact m.new rfl ⟨rfl,Nat.le_refl _⟩ rfl (by simp) (fun k hk=>a5a w _ k hk) (heap_alloc_new w _) fun g hg=>by simp only[Res.foot,Option.some.injEq]at hg;omega
 have m2:Mem E I ((.any r.l (.loop r.ready)::r.mark::Hx s0)++H0) W1:=by
  rw[hrl,hrr,←hW1];have hsz:(w.alloc (.deferred (some []))).heap.size=w.heap.size+1:=by simp
  refine m1.new rfl ⟨rfl,Nat.le_refl _⟩ rfl (by simp) (fun k hk=>a5a _ _ k hk) ?_ fun g hg=>by simp only[Res.foot,Option.some.injEq]at hg;omega
  have:=heap_alloc_new (w.alloc (.deferred (some []))) (.loop rec);rw[hsz]at this
  exact this
 -- the rounds
 have hJm:c3x (JR I r Hx p px):=by
  rintro (_|_) pre I1 I2 H1 hle ⟨s1,h⟩
  ·obtain⟨c,h1,h2,h3⟩:=h;exact⟨s1,c,h1,h2.trans hle,hmx _ _ _ _ _ hle h3⟩
  ·obtain⟨h1,h2,h3⟩:=h;exact⟨s1,h1,h2.trans hle,hmp _ _ _ _ hle h3⟩
 have hy:a6L P r.l rd ok (JR I r Hx p px):=by
  rintro pre x vs I1 H1 ⟨s1,rfl,hle,hp1⟩ hx hok w1 mw;have hl1:w1.heap[r.l]? = some (.loop r.ready):=mw.holds _ (List.mem_cons_self ..);have hI1:=round r ⟨a2e (.any r.l (.loop r.ready)::r.mark::Hx s1),I1,w1⟩ pre x vs I1 s1 hle hp1 hx hok;have hvl:vs.toArray.size=r.ready.params.size:=by rw[hrr,hrec];simp[hlen _ _ _ hx]
  unfold After;rw[run_yield (P:=P) hl1 hvl];refine roundIn_of_wpIn trivial ?_
  have st1:St ⟨k,[]⟩ { tmps:=((r.ready.params.zip vs.toArray).foldl (fun tmps x=>tmps.setIfInBounds x.1 x.2) r.ready.tmps),defers:=[] } (putAll (ps.zip vs) L):=by
   have h0:St ⟨k,[]⟩ { a with defers:=[] } L:=⟨s.size,rfl,s.get⟩
   have h1:=h0.putAll (ps.zip vs) (fun q hq=>by
    have h2:=List.all_eq_true.1 hps q.1 (List.of_mem_zip hq).1
    simpa[Nat.blt_eq]using h2)
   have e:(r.ready.params.zip vs.toArray).foldl (fun tmps x=>tmps.setIfInBounds x.1 x.2) r.ready.tmps=(ps.zip vs).foldl (fun t p=>t.setIfInBounds p.1 p.2) a.tmps:=by
    rw[hrr,hrec]
    simp
   rw[e];exact h1
  have m1:=Mem.call (E:=⟨a2e (.any r.l (.loop r.ready)::r.mark::Hx s1),I1,w1⟩) (Hc:=.any r.l (.loop r.ready)::r.mark::Hx s1) (H0:=[]) (by simpa using mw);have h3:=hI1 _ _ st1 m1;have e2:r.ready.assign=assign:=by rw[hrr,hrec]
  have e3:r.ready.body=body:=by rw[hrr,hrec]
  rw[e2,e3];exact h3
 have hf:=(hit r.l (JR I r Hx p px) I _ (ILe.refl I) hJm hy ⟨s0,rfl,ILe.refl I,h0⟩).go W1 m2.call;unfold After at hf
 rw[hcall]at hf
 have hargs:#[.func (.yield (w.heap.size+1)) #[] #[]]++cap.toArray=(Value.func (.yield r.l) #[] #[]::cap).toArray:=by rw[hrl];simp
 rw[hargs];refine a9t (Calls.mono hf ?_);rintro e w2 ⟨v,I',H',rfl,hm',b,pre,hJ,hfp⟩;have hb:=m2.back hm';have hsame:∀_:Unit,St ⟨k,.m r.D::D⟩ { a with defers:=[{ target:=.collected w.heap.size,args:=#[] }]++a.defers } L:=fun _=>⟨s.size,by rw[hrD];show _::a.defers=_;rw[s.defers];rfl,s.get⟩
 cases b with
 |true=>
  obtain⟨s2,rfl,hle,hp2⟩:=hJ;have hl2:w2.heap[w.heap.size+1]? = some (.loop r.ready):=by rw[←hrl];exact hb.holds _ (List.mem_cons_self ..)
  refine⟨none,_,by have:=run_endLoop (P:=P) hl2 (by rw[r.hs];simp);rw[r.hp]at this;exact this,?_⟩;rw[←hrl];have m3:=(a6h (o':={ r.ready with state:=.exhausted,pending:=none }) hb).drop;exact hdone r.D pre I' s2 hle hfp hp2 _ _ (hsame ()) m3
 |false=>
  obtain⟨s2,c,rfl,hle,hp2⟩:=hJ;have hl2:w2.heap[w.heap.size+1]? = some (.loop (r.done c)):=by rw[←hrl];exact hb.holds _ (List.mem_cons_self ..)
  refine⟨some c,_,by have:=run_endLoop (P:=P) hl2 (by simp[Rec.done]);exact this,?_⟩;rw[←hrl];have m3:=(a6h (o':={ r.done c with state:=.exhausted }) hb).drop;exact hstop r.D pre I' s2 c hle hfp hp2 _ _ (hsame ()) m3
end
end Go.Sx
set_option linter.all false
namespace Go.Sx
open Go
section
variable {P:Program} {ρ:Option Nat} {n:Sz} {E:Ent} {I I':IMap} {L:LL} {H:List Res} {K:Act→World→Prop} {Q:Exit→Act→World→Prop} {ops:Array Oper} {N:Act→World→Prop}
variable {α β γ δ ε:Type}
def c6m (n:Sz) (E:Ent) (Ix:α→β→γ→δ→IMap) (Lx:α→β→γ→δ→LL) (Hx:α→β→γ→δ→List Res) (p:α→β→γ→δ→Prop) (μ:α→β→γ→δ→Nat) (x:α) (y:β) (z:γ) (t:δ):Act→World→Prop:=
 fun a w=>∃x' y' z' t',p x' y' z' t'∧μ x' y' z' t'<μ x y z t∧St n a (Lx x' y' z' t')∧Mem E (Ix x' y' z' t') (Hx x' y' z' t') w
theorem a2C (x0:α) (y0:β) (z0:γ) (t0:δ) (Ix:α→β→γ→δ→IMap) (Lx:α→β→γ→δ→LL) (Hx:α→β→γ→δ→List Res) (p:α→β→γ→δ→Prop) (μ:α→β→γ→δ→Nat) {c:Code}
  (h0:p x0 y0 z0 t0) (hI:Ix x0 y0 z0 t0=I) (hL:Sub (Lx x0 y0 z0 t0) L) (hH:Hx x0 y0 z0 t0=H)
  (round:∀x y z t,p x y z t→SX n E (Ix x y z t) (Lx x y z t) (Hx x y z t) (c.wq ρ P (Exit.then (c6m n E Ix Lx Hx p μ x y z t) Q))):SX n E I L H ((Code.loop c).wq ρ P Q):=
 a0w (α:=α×β×γ×δ) (x0,y0,z0,t0) (fun q=>Ix q.1 q.2.1 q.2.2.1 q.2.2.2) (fun q=>Lx q.1 q.2.1 q.2.2.1 q.2.2.2) (fun q=>Hx q.1 q.2.1 q.2.2.1 q.2.2.2) (fun q=>p q.1 q.2.1 q.2.2.1 q.2.2.2) (fun q=>μ q.1 q.2.1 q.2.2.1 q.2.2.2) h0 hI hL hH
  fun ⟨x,y,z,t⟩ hp=>b0m (round x y z t hp) fun a w h=>a3K (fun e a w q=>by
   cases e with
   |normal=>obtain⟨x',y',z',t',h1,h2,h3,h4⟩:=q;exact⟨(x',y',z',t'),h1,h2,h3,h4⟩
   |_=>exact q) h
theorem a1k {Ix:α→β→γ→δ→IMap} {Lx:α→β→γ→δ→LL} {Hx:α→β→γ→δ→List Res} {p:α→β→γ→δ→Prop} {μ:α→β→γ→δ→Nat} {x:α} {y:β} {z:γ} {t:δ} (x':α) (y':β) (z':γ) (t':δ) (hp:p x' y' z' t') (hμ:μ x' y' z' t'<μ x y z t)
  (hI:Ix x' y' z' t'=I) (hL:Sub (Lx x' y' z' t') L) (hH:Hx x' y' z' t'=H):SX n E I L H (c6m n E Ix Lx Hx p μ x y z t):=
 fun a w s m=>⟨x',y',z',t',hp,hμ,s.sub hL,by rw[hI,hH];exact m⟩
def c6n (n:Sz) (E:Ent) (Ix:α→β→γ→δ→ε→IMap) (Lx:α→β→γ→δ→ε→LL) (Hx:α→β→γ→δ→ε→List Res) (p:α→β→γ→δ→ε→Prop) (μ:α→β→γ→δ→ε→Nat) (x:α) (y:β) (z:γ) (t:δ) (u:ε):Act→World→Prop:=
 fun a w=>∃x' y' z' t' u',p x' y' z' t' u'∧μ x' y' z' t' u'<μ x y z t u∧St n a (Lx x' y' z' t' u')∧Mem E (Ix x' y' z' t' u') (Hx x' y' z' t' u') w
theorem a6N (x0:α) (y0:β) (z0:γ) (t0:δ) (u0:ε) (Ix:α→β→γ→δ→ε→IMap) (Lx:α→β→γ→δ→ε→LL) (Hx:α→β→γ→δ→ε→List Res) (p:α→β→γ→δ→ε→Prop) (μ:α→β→γ→δ→ε→Nat) {c:Code}
  (h0:p x0 y0 z0 t0 u0) (hI:Ix x0 y0 z0 t0 u0=I) (hL:Sub (Lx x0 y0 z0 t0 u0) L) (hH:Hx x0 y0 z0 t0 u0=H)
  (round:∀x y z t u,p x y z t u→SX n E (Ix x y z t u) (Lx x y z t u) (Hx x y z t u) (c.wq ρ P (Exit.then (c6n n E Ix Lx Hx p μ x y z t u) Q))):SX n E I L H ((Code.loop c).wq ρ P Q):=
 a0w (α:=α×β×γ×δ×ε) (x0,y0,z0,t0,u0) (fun q=>Ix q.1 q.2.1 q.2.2.1 q.2.2.2.1 q.2.2.2.2) (fun q=>Lx q.1 q.2.1 q.2.2.1 q.2.2.2.1 q.2.2.2.2) (fun q=>Hx q.1 q.2.1 q.2.2.1 q.2.2.2.1 q.2.2.2.2) (fun q=>p q.1 q.2.1 q.2.2.1 q.2.2.2.1 q.2.2.2.2) (fun q=>μ q.1 q.2.1 q.2.2.1 q.2.2.2.1 q.2.2.2.2) h0 hI hL hH
  fun ⟨x,y,z,t,u⟩ hp=>b0m (round x y z t u hp) fun a w h=>a3K (fun e a w q=>by
   cases e with
   |normal=>obtain⟨x',y',z',t',u',h1,h2,h3,h4⟩:=q;exact⟨(x',y',z',t',u'),h1,h2,h3,h4⟩
   |_=>exact q) h
theorem a1R {Ix:α→β→γ→δ→ε→IMap} {Lx:α→β→γ→δ→ε→LL} {Hx:α→β→γ→δ→ε→List Res} {p:α→β→γ→δ→ε→Prop} {μ:α→β→γ→δ→ε→Nat} {x:α} {y:β} {z:γ} {t:δ} {u:ε} (x':α) (y':β) (z':γ) (t':δ) (u':ε) (hp:p x' y' z' t' u') (hμ:μ x' y' z' t' u'<μ x y z t u)
  (hI:Ix x' y' z' t' u'=I) (hL:Sub (Lx x' y' z' t' u') L) (hH:Hx x' y' z' t' u'=H):SX n E I L H (c6n n E Ix Lx Hx p μ x y z t u):=
 fun a w s m=>⟨x',y',z',t',u',hp,hμ,s.sub hL,by rw[hI,hH];exact m⟩
end
section
variable {P:Program} {n:Sz} {E:Ent} {I:IMap} {L:LL} {Q:Exit→Act→World→Prop} {ops:Array Oper} {K:Act→World→Prop} {d ty:Nat} {pos:String} {af:Array Edge}
variable {α:Type} {l:Nat} {rd:IMap→List Value→α→Prop} {ok:List α→α→Prop} {J:Bool→List α→IMap→List Res→Prop} {Hc:List Res} {fo:Operand} {as_:List Operand} {ats:Array TypeId} {vs:List Value} {pre:List α} {r1 r2 r3 r4 r5:Res}
theorem b6R (x:α) (hy:a6L P l rd ok J) (hJ:J true pre I Hc) (hr:rd I vs x) (hk:ok pre x) (hf:ev L fo=some (.func (.yield l) #[] #[])) (ha:evs L as_=some vs) (hd:Nat.blt d n.sz=true)
  (k:∀b I' Hc',ILe I I'→J b (pre++[x]) I' Hc'→SX n E I' ((d,.bool b)::L) (r1::Hc') K):SX n E I L (r1::Hc) (one P ops Q ⟨some d,.call { callee:=.value fo,args:=as_.toArray,argTypes:=ats },ty,pos,af,none⟩ K):=
 c1P (H:=[r1]) hy hJ hr hk hf ha hd k
theorem b6S (x:α) (hy:a6L P l rd ok J) (hJ:J true pre I Hc) (hr:rd I vs x) (hk:ok pre x) (hf:ev L fo=some (.func (.yield l) #[] #[])) (ha:evs L as_=some vs) (hd:Nat.blt d n.sz=true)
  (k:∀b I' Hc',ILe I I'→J b (pre++[x]) I' Hc'→SX n E I' ((d,.bool b)::L) (r1::r2::Hc') K):SX n E I L (r1::r2::Hc) (one P ops Q ⟨some d,.call { callee:=.value fo,args:=as_.toArray,argTypes:=ats },ty,pos,af,none⟩ K):=
 c1P (H:=[r1,r2]) hy hJ hr hk hf ha hd k
end
section
variable {P:Program} {n:Sz} {E:Ent} {I I':IMap} {L:LL} {H:List Res} {Q:Exit→Act→World→Prop} {ops:Array Oper} {K:Act→World→Prop} {w0:World}
variable {d ty:Nat} {pos:String} {af:Array Edge} {fo:Operand} {as_:List Operand} {ats:Array TypeId} {f:FuncId} {args:List Value} {r:Res} {X:List Nat}
def FnD (P:Program) (f:FuncId) (args:Array Value) (I:IMap) (r:Res) (p:Value→IMap→Prop):Prop:=FnH P f args I [r] fun u I' H'=>p u I'∧H'=[]
theorem c8J {p:Value→IMap→Prop} (hc:FnD P f args.toArray I r p) (h:a1z L fo as_=some (f,args)) (hd:Nat.blt d n.sz=true) (k:∀v I',ILe I I'→p v I'→SX n E I' ((d,v)::L) H K) :
  SX n E I L (r::H) (one P ops Q ⟨some d,.call { callee:=.value fo,args:=as_.toArray,argTypes:=ats },ty,pos,af,none⟩ K):=
 a3E (Hc:=[r]) hc h hd fun v I' H' hI hp=>by obtain⟨h1,rfl⟩:=hp;exact k v I' hI h1
theorem q_d {v:Value} {p:Value→IMap→Prop} (h:p v I):SX n E I L H fun _ w=>a8F E (fun u' I' H'=>p u' I'∧H'=[]) (.returned v) w:=q_i h
theorem d0v {α:Type} {J:Bool→List α→IMap→List Res→Prop} {full part:List α→Prop} {v:Value} (b:Bool) (pre:List α) (hJ:J b pre I H) (hf:if b then full pre else part pre) :
  SX n E I L H fun _ w=>a8F E (fun _ I' H'=>∃b pre,J b pre I' H'∧(if b then full pre else part pre)) (.returned v) w:=a4N (fun _ m=>m) ⟨b,pre,hJ,hf⟩
end
section
variable {n:Sz} {E:Ent} {I:IMap} {L:LL} {H:List Res} {K:Act→World→Prop} {a b r1 r2 r3 r4 r5 r6 r7 r8 r9:Res}
theorem c9P (h:SX n E I L [a,b,r1] K):SX n E I L (a::b::[r1]) K:=h
theorem c9O (h:SX n E I L (a::r1::H) K):SX n E I L (a::([r1]++H)) K:=h
theorem c9Q (h:SX n E I L [a,b,r1,r2,r3] K):SX n E I L (a::b::[r1,r2,r3]) K:=h
theorem c2F (h:SX n E I L (a::r1::r2::r3::H) K):SX n E I L (a::([r1,r2,r3]++H)) K:=h
theorem c2H (h:SX n E I L [a,b,r1,r2,r3,r4,r5] K):SX n E I L (a::b::[r1,r2,r3,r4,r5]) K:=h
theorem c2G (h:SX n E I L (a::r1::r2::r3::r4::r5::H) K):SX n E I L (a::([r1,r2,r3,r4,r5]++H)) K:=h
end
theorem b7I {n:Sz} {E:Ent} {I:IMap} {L:LL} {H:List Res} {K:Act→World→Prop} {v:Value} {t k m:Nat} {xs ys:List Value} (h:xs=ys) (hk:SX n E I L (.row v t k m ys::H) K):SX n E I L (.row v t k m xs::H) K:=h▸hk
section
variable {P:Program} {n:Sz} {E:Ent} {I:IMap} {L:LL} {H:List Res} {d ty tx tyy:Nat} {pos:String} {af:Array Edge} {x y:Operand}
end
end Go.Sx
set_option linter.all false
namespace Go.Sx
open Go
theorem c8u {α:Type} (p:α→Bool) (l:List α) : -1≤a5w p l:=by
  cases h:l.findIdx? p with
  | none => have : a5w p l = -1 := by simp [a5w, h]
            omega
  | some k => have : a5w p l = (k : Int) := by simp [a5w, h]
              omega
theorem c4u {α:Type} {p:α→Bool} {l:List α} {i:Nat} (h:a5w p l=(i:Int)) (hi:i<l.length):p l[i]=true∧∀j x,j<i→l[j]? = some x→p x=false:=by
  cases hf:l.findIdx? p with
  | none => have : a5w p l = -1 := by simp [a5w, hf]
            omega
  |some k=>
    have:a5w p l=(k:Int):=by simp[a5w,hf]
    obtain rfl:k=i:=oM;rw[List.findIdx?_eq_some_iff_getElem]at hf
    obtain⟨h1,h2,h3⟩:=hf;exact⟨h2,fun j x hj hx=>by obtain⟨hlt,rfl⟩:=List.getElem?_eq_some_iff.1 hx;simpa using h3 j hj⟩
structure Del (p:Evt→Bool) (l m:List Evt) (i j:Nat):Prop where
 len:m.length=l.length
 le:i≤j
 hj:j≤l.length
 fst:m.take i=(l.take j).filter fun x=>!p x
 rest:m.drop j=l.drop j
theorem Del.start {p:Evt→Bool} {l:List Evt} {i:Nat} (hi:i<l.length) (hp:p l[i]=true) (hn:∀j x,j<i→l[j]? = some x→p x=false):Del p l l i (i+1):=by
 refine⟨rfl,oM,oM,?_,rfl⟩;rw[←a0e hi,List.filter_append]
 have h1:(l.take i).filter (fun x=>!p x)=l.take i:=by
  rw[List.filter_eq_self];intro x hx;obtain⟨j,hj,rfl⟩:=List.getElem_of_mem hx
  simp only[List.length_take]at hj
  rw[List.getElem_take,hn j _ oM (List.getElem?_eq_getElem oM)]
  rfl
 rw[h1]
 simp[hp]
theorem Del.at_ {p:Evt→Bool} {l m:List Evt} {i j:Nat} (h:Del p l m i j) (hj:j<l.length):m[j]'(by rw[h.len];exact hj)=l[j]:=by
 have h1:(m.drop j)[0]? = (l.drop j)[0]?:=by rw[h.rest]
 rw[List.getElem?_drop,List.getElem?_drop,List.getElem?_eq_getElem (by rw[h.len];simpa using hj),List.getElem?_eq_getElem (by simpa using hj)]at h1
 simpa using h1
theorem Del.skip {p:Evt→Bool} {l m:List Evt} {i j:Nat} (h:Del p l m i j) (hj:j<l.length) (hp:p l[j]=true):Del p l m i (j+1):=by
 refine⟨h.len,by have:=h.le;omega,oM,?_,?_⟩
 ·rw[h.fst,←a0e hj,List.filter_append];simp[hp]
 ·have:=congrArg (List.drop 1) h.rest;simpa[List.drop_drop]using this
theorem Del.keep {p:Evt→Bool} {l m:List Evt} {i j:Nat} (h:Del p l m i j) (hj:j<l.length) (hp:p l[j]=false):Del p l (m.set i l[j]) (i+1) (j+1):=by
 have hl:=h.len;have hle:=h.le;refine⟨by simp[hl],oM,oM,?_,?_⟩
 ·rw[List.take_succ_eq_append_getElem (by simp;omega),List.take_set_of_le (Nat.le_refl _),h.fst,←a0e hj,List.filter_append]
  simp[hp]
 ·rw[List.drop_set_of_lt oM];have:=congrArg (List.drop 1) h.rest;simpa[List.drop_drop]using this
def a3m (c:List Kind):List Part→List Evt→List b4n
 |_,[]=>[]
 |s,e::r=>a0f c s e::(if (a0f c s e).2=0 then a3m c (a0f c s e).1 r else [])
abbrev c6s:=List Part×Int×Int
def b3X (c:List Kind):List Part→Int→List Evt→c6s
 |s,_,[]=>(s,-1,0)
 |s,i,e::r=>if (a0f c s e).2=0 then b3X c (a0f c s e).1 (i+1) r else ([],i,(a0f c s e).2)
def b7x (c:List Kind) (l:List Evt):c6s:=if a1a c=false then ([],-1,1) else b3X c [] 0 (a0Q l)
structure StAt (c:List Kind) (l:List Evt) (i:Nat) (st:List Part):Prop where
 le:i≤(a3m c [] l).length
 rest:(a3m c [] l).drop i=a3m c st (l.drop i)
theorem StAt.zero (c:List Kind) (l:List Evt):StAt c l 0 []:=⟨Nat.zero_le _,rfl⟩
theorem StAt.step {c:List Kind} {l:List Evt} {i:Nat} {st:List Part} (h:StAt c l i st) (hi:i<l.length) :
  (a3m c [] l).take i++[a0f c st l[i]]=(a3m c [] l).take (i+1)∧i<(a3m c [] l).length∧((a0f c st l[i]).2=0→StAt c l (i+1) (a0f c st l[i]).1)∧((a0f c st l[i]).2≠0→(a3m c [] l).take (i+1)=a3m c [] l):=by
 have h1:=h.rest;rw[List.drop_eq_getElem_cons hi]at h1
 simp only[a3m]at h1
 have hlt:i<(a3m c [] l).length:=by
  rcases Nat.lt_or_ge i (a3m c [] l).length with h2|h2
  ·exact h2
  ·rw[List.drop_eq_nil_of_le h2]at h1;cases h1
 rw[List.drop_eq_getElem_cons hlt]at h1
 simp only[List.cons.injEq]at h1
 refine⟨?_,hlt,fun h0=>⟨hlt,?_⟩,fun h0=>?_⟩
 ·rw[←h1.1,a0e hlt]
 ·rw[h1.2,if_pos h0]
 ·refine List.take_of_length_le ?_;have h2:=h1.2;rw[if_neg h0]at h2
  simpa using h2
theorem StAt.last {c:List Kind} {l:List Evt} {i:Nat} {st:List Part} (h:StAt c l i st) (hi:l.length≤i):(a3m c [] l).take i=a3m c [] l:=by
 have h1:=h.rest;rw[List.drop_eq_nil_of_le hi]at h1
 exact List.take_of_length_le (by simpa[a3m]using h1)
theorem SmF.nil:SmF []:=fun _ h=>by cases h
theorem b2o {α:Type} {nm:α→ByteArray} {l:List α} {x y:α} (h:y∈a4M nm l x):y=x∨y∈l:=by
 unfold a4M at h
 split at h
 ·rcases List.mem_or_eq_of_mem_set h with h|h
  ·exact .inr h
  ·exact .inl h
 ·rcases List.mem_append.1 h with h|h
  ·exact .inr (List.mem_of_mem_take h)
  ·rcases List.mem_cons.1 h with h|h
   ·exact .inl h
   ·exact .inr (List.mem_of_mem_drop h)
theorem b2p {l:List Part} {p:Part} (h:SmF l) (hp:SmP p):SmF (b7d l p).1:=fun q hq=>by
 rcases b2o (show q∈a4M Part.name l p from hq) with rfl|hq
 ·exact hp
 ·exact h q hq
theorem a5b {c:List Kind} {l:List Part} {e:Evt} (h:SmF l) (he:SmE e):SmF (a0f c l e).1:=by
 have hz:SmP zPart:=⟨(by show (0:Nat)≤_;omega),fun q hq=>by simp[zPart]at hq⟩
 have hp:SmP (a1V l e):=by
  unfold a1V
  cases hf:a0C l e.part with
  |none=>exact hz
  |some p=>exact h p (a7n hf)
 have hn:SmP (a2o e (a1V l e)):=⟨hp.1,fun q hq=>by
  rcases b2o (show q∈a4M Prp.key (a1V l e).props ⟨e.key,e.value⟩ from hq) with rfl|hq
  ·exact he.2.2.2.2.1
  ·exact hp.2 q hq⟩
 have hnew:SmP (c4N e):=⟨he.1,fun q hq=>by simp[c4N]at hq⟩;have hfail:∀k,SmF (a5S k).1:=fun k=>SmF.nil
 unfold a0f
 split
 ·exact hfail 1
 ·split
  ·unfold a2s
   repeat' split
   all_goals first
    |exact hfail _
    |exact b2p h hnew
  ·unfold a0q
   split
   ·exact hfail _
   ·split
    ·exact hfail _
    ·unfold a0X a0L a0m a0H a0B a0r
     repeat' split
     all_goals first
      |exact hfail _
      |exact b2p h hp
      |exact b2p h hn
      |exact b2p h ⟨hp.1,hp.2⟩
end Go.Sx
set_option linter.all false
namespace Go.Sx
open Go
section
variable {α:Type} {nm:α→ByteArray}
def Inc (nm:α→ByteArray) (l:List α):Prop:=l.Pairwise fun x y=>sLt (nm x) (nm y)=true
theorem b3f {l:List α} (h:Srt nm l):Inc nm l:=by
 rw[Inc,List.pairwise_iff_getElem];exact fun i j hi hj hij=>h i j hj hij
structure Cut (nm:α→ByteArray) (s:ByteArray) (a b:List α):Prop where
 lo:∀y∈a,sLt (nm y) s=true
 hi:∀y∈b,sLt s (nm y)=true
theorem b2W (l:List α) (s:ByteArray) (h:Inc nm l):(∃a b,l=a++b∧Cut nm s a b)∨∃a y b,l=a++y::b∧nm y=s∧Cut nm s a b:=by
 induction l with
 |nil=>exact .inl ⟨[],[],rfl,fun _ h=>(by cases h),fun _ h=>(by cases h)⟩
 |cons x r ih=>
  have h':=List.pairwise_cons.1 h
  cases hx:sLt (nm x) s with
  |true=>
   rcases ih h'.2 with ⟨a,b,rfl,hc⟩|⟨a,y,b,rfl,hy,hc⟩
   ·exact .inl ⟨x::a,b,rfl,fun y hy=>by rcases List.mem_cons.1 hy with rfl|hy;exact hx;exact hc.lo y hy,hc.hi⟩
   ·exact .inr ⟨x::a,y,b,rfl,hy,fun y hy=>by rcases List.mem_cons.1 hy with rfl|hy;exact hx;exact hc.lo y hy,hc.hi⟩
  |false=>
   by_cases he:nm x=s
   ·subst he;exact .inr ⟨[],x,r,rfl,rfl,fun _ h=>(by cases h),fun y hy=>h'.1 y hy⟩
   ·have hs:sLt s (nm x)=true:=by
     cases hs:sLt s (nm x) with
     |true=>rfl
     |false=>exact absurd (c9x hx hs) he
    exact .inl ⟨[],x::r,rfl,fun _ h=>(by cases h),fun y hy=>by
     rcases List.mem_cons.1 hy with rfl|hy
     ·exact hs
     ·exact a4z hs (h'.1 y hy)⟩
theorem c2d {a b:List α} {s:ByteArray} (hc:Cut nm s a b):a6t nm (a++b) s=a.length:=by
 refine b6Z (by simp) (fun q x hq hx=>?_) fun q x hq hx=>?_
 ·rw[List.getElem?_append_left hq]at hx
  exact hc.lo x (List.mem_of_getElem? hx)
 ·rw[List.getElem?_append_right hq]at hx
  exact b0g (hc.hi x (List.mem_of_getElem? hx))
theorem b6Y {a b:List α} {y:α} {s:ByteArray} (hc:Cut nm s a b) (hy:nm y=s):a6t nm (a++y::b) s=a.length:=by
 refine b6Z (by simp) (fun q x hq hx=>?_) fun q x hq hx=>?_
 ·rw[List.getElem?_append_left hq]at hx
  exact hc.lo x (List.mem_of_getElem? hx)
 ·rw[List.getElem?_append_right hq]at hx
  rcases List.mem_cons.1 (List.mem_of_getElem? hx) with rfl|hx
  ·rw[hy];exact a1M s
  ·exact b0g (hc.hi x hx)
theorem b9C {a b:List α} {s:ByteArray} (hc:Cut nm s a b):atF nm (a++b) s=false:=by
 unfold atF;rw[c2d hc]
 cases b with
 |nil=>simp
 |cons y r=>
  rw[List.getElem?_append_right (Nat.le_refl _),Nat.sub_self]
  simp only[List.getElem?_cons_zero,decide_eq_false_iff_not]
  rintro rfl;have:=hc.hi y (by simp);rw[a1M]at this;cases this
theorem b4u {a b:List α} {y:α} {s:ByteArray} (hc:Cut nm s a b) (hy:nm y=s):atF nm (a++y::b) s=true:=by
 unfold atF;rw[b6Y hc hy,List.getElem?_append_right (Nat.le_refl _),Nat.sub_self]
 simp[hy]
theorem b2q {a b:List α} {x:α} (hc:Cut nm (nm x) a b):a4M nm (a++b) x=a++x::b:=by
 unfold a4M;rw[b9C hc,c2d hc,if_neg (by decide)]
 simp
theorem a8W {a b:List α} {x y:α} (hc:Cut nm (nm x) a b) (hy:nm y=nm x):a4M nm (a++y::b) x=a++x::b:=by
 unfold a4M;rw[b4u hc hy,b6Y hc hy,if_pos rfl]
 simp
theorem c0Z {a b:List α} {x:α} (ha:Inc nm a) (hb:Inc nm b) (hc:Cut nm (nm x) a b):Inc nm (a++x::b):=by
 rw[Inc,List.pairwise_append,List.pairwise_cons]
 exact⟨ha,⟨hc.hi,hb⟩,fun y hy z hz=>by
  rcases List.mem_cons.1 hz with rfl|hz
  ·exact hc.lo y hy
  ·exact a4z (hc.lo y hy) (hc.hi z hz)⟩
theorem a4c {l:List α} (x:α) (h:Inc nm l):Inc nm (a4M nm l x):=by
 rcases b2W l (nm x) h with ⟨a,b,rfl,hc⟩|⟨a,y,b,rfl,hy,hc⟩
 ·rw[b2q hc];rw[Inc,List.pairwise_append]at h
  exact c0Z h.1 h.2.1 hc
 ·rw[a8W hc hy];rw[Inc,List.pairwise_append,List.pairwise_cons]at h
  exact c0Z h.1 h.2.1.2 hc
theorem a8n {a b:List α} {s:ByteArray} (hc:Cut nm s a b) {y:α} (hy:y∈a∨y∈b):nm y≠s:=by
 rintro rfl
 rcases hy with hy|hy
 ·have:=hc.lo y hy;rw[a1M]at this;cases this
 ·have:=hc.hi y hy;rw[a1M]at this;cases this
theorem a3k {l:List α} {x z:α} (h:Inc nm l):z∈a4M nm l x↔z=x∨(z∈l∧nm z≠nm x):=by
 rcases b2W l (nm x) h with ⟨a,b,rfl,hc⟩|⟨a,y,b,rfl,hy,hc⟩
 ·rw[b2q hc]
  simp only[List.mem_append,List.mem_cons]
  constructor
  ·rintro (h|h|h)
   ·exact .inr ⟨.inl h,a8n hc (.inl h)⟩
   ·exact .inl h
   ·exact .inr ⟨.inr h,a8n hc (.inr h)⟩
  ·rintro (h|⟨h|h,_⟩)
   ·exact .inr (.inl h)
   ·exact .inl h
   ·exact .inr (.inr h)
 ·rw[a8W hc hy]
  simp only[List.mem_append,List.mem_cons]
  constructor
  ·rintro (h|h|h)
   ·exact .inr ⟨.inl h,a8n hc (.inl h)⟩
   ·exact .inl h
   ·exact .inr ⟨.inr (.inr h),a8n hc (.inr h)⟩
  ·rintro (h|⟨h|h|h,hn⟩)
   ·exact .inr (.inl h)
   ·exact .inl h
   ·subst h;exact absurd hy hn
   ·exact .inr (.inr h)
theorem b1U {l:List α} (h:Inc nm l) {x y:α} (hx:x∈l) (hy:y∈l) (he:nm x=nm y):x=y:=by
 obtain⟨i,hi,rfl⟩:=List.getElem_of_mem hx;obtain⟨j,hj,rfl⟩:=List.getElem_of_mem hy;rw[Inc,List.pairwise_iff_getElem]at h
 rcases Nat.lt_trichotomy i j with hij|rfl|hij
 ·have:=h i j hi hj hij;rw[he,a1M]at this;cases this
 ·rfl
 ·have:=h j i hj hi hij;rw[he,a1M]at this;cases this
theorem b4W:∀{l m:List α},Inc nm l→Inc nm m→(∀x,x∈l↔x∈m)→l=m
 | [],[],_,_,_=>rfl
 | [],y::m,_,_,h=>by have:=(h y).2 (by simp);cases this
 |x::l,[],_,_,h=>by have:=(h x).1 (by simp);cases this
 |x::l,y::m,h1,h2,h=>by
  have h1':=List.pairwise_cons.1 h1;have h2':=List.pairwise_cons.1 h2
  have hxy:x=y:=by
   rcases List.mem_cons.1 ((h x).1 (by simp)) with e|hx
   ·exact e
   ·rcases List.mem_cons.1 ((h y).2 (by simp)) with e|hy
    ·exact e.symm
    ·have a:=h2'.1 x hx;have b:=h1'.1 y hy;have:=a4z a b;rw[a1M]at this;cases this
  subst hxy
  congr 1
  refine b4W h1'.2 h2'.2 fun z=>?_
  have hz:=h z
  simp only[List.mem_cons]at hz
  constructor
  ·intro hzl
   rcases hz.1 (.inr hzl) with rfl|hm
   ·have:=h1'.1 z hzl;rw[a1M]at this;cases this
   ·exact hm
  ·intro hzm
   rcases hz.2 (.inr hzm) with rfl|hm
   ·have:=h2'.1 z hzm;rw[a1M]at this;cases this
   ·exact hm
theorem put_comm {l:List α} {x y:α} (h:Inc nm l) (hn:nm x≠nm y):a4M nm (a4M nm l x) y=a4M nm (a4M nm l y) x:=by
 refine b4W (a4c y (a4c x h)) (a4c x (a4c y h)) fun z=>?_
 rw[a3k (a4c x h),a3k h,a3k (a4c y h),a3k h]
 constructor
 ·rintro (rfl|⟨rfl|⟨h1,h2⟩,h3⟩)
  ·exact .inr ⟨.inl rfl,fun e=>hn e.symm⟩
  ·exact .inl rfl
  ·exact .inr ⟨.inr ⟨h1,h3⟩,h2⟩
 ·rintro (rfl|⟨rfl|⟨h1,h2⟩,h3⟩)
  ·exact .inr ⟨.inl rfl,hn⟩
  ·exact .inl rfl
  ·exact .inr ⟨.inr ⟨h1,h3⟩,h2⟩
theorem b2r {l:List α} {x:α} (h:Inc nm l):(a4M nm l x).length=if atF nm l (nm x)=true then l.length else l.length+1:=by
 rcases b2W l (nm x) h with ⟨a,b,rfl,hc⟩|⟨a,y,b,rfl,hy,hc⟩
 ·rw[b2q hc,b9C hc];simp;omega
 ·rw[a8W hc hy,b4u hc hy];simp
theorem b6h {l:List α} (h:Inc nm l) {x:α} (hx:x∈l):l.find? (fun y=>decide (nm y=nm x))=some x:=by
 cases hf:l.find? fun y=>decide (nm y=nm x) with
 |none=>
  rw[List.find?_eq_none]at hf
  have:=hf x hx
  simp at this
 |some y=>
  have h1:=List.mem_of_find?_eq_some hf;have h2:=List.find?_some hf;rw[b1U h h1 hx (by simpa using h2)]
theorem a1T {l:List α} (h:Inc nm l) {s:ByteArray} {x:α}:l.find? (fun y=>decide (nm y=s))=some x↔x∈l∧nm x=s:=by
 constructor
 ·intro hf;exact⟨List.mem_of_find?_eq_some hf,by simpa using List.find?_some hf⟩
 ·rintro⟨hx,rfl⟩;exact b6h h hx
theorem a9z {l:List α} {s:ByteArray}:l.find? (fun y=>decide (nm y=s))=none↔∀x∈l,nm x≠s:=by
 rw[List.find?_eq_none];simp
theorem b7e {l:List α} {x:α} (h:Inc nm l) (s:ByteArray):(a4M nm l x).find? (fun y=>decide (nm y=s))=if nm x=s then some x else l.find? fun y=>decide (nm y=s):=by
 have h1:=a4c x h
 split
 ·rename_i e;subst e;exact b6h h1 ((a3k h).2 (.inl rfl))
 ·rename_i e
  cases hf:l.find? fun y=>decide (nm y=s) with
  |none=>
   rw[a9z]at hf ⊢
   intro z hz
   rcases (a3k h).1 hz with rfl|⟨hz,_⟩
   ·exact e
   ·exact hf z hz
  |some y=>
   rw[a1T h]at hf
   rw[a1T h1];exact⟨(a3k h).2 (.inr ⟨hf.1,fun e'=>e (e'.symm.trans hf.2)⟩),hf.2⟩
theorem a9j {l:List α} (h:Inc nm l) (s:ByteArray):atF nm l s=(l.find? fun y=>decide (nm y=s)).isSome:=by
 rcases b2W l s h with ⟨a,b,rfl,hc⟩|⟨a,y,b,rfl,hy,hc⟩
 ·rw[b9C hc];have:(a++b).find? (fun y=>decide (nm y=s))=none:=a9z.2 fun x hx=>a8n hc (List.mem_append.1 hx)
  rw[this];rfl
 ·rw[b4u hc hy];have:(a++y::b).find? (fun y=>decide (nm y=s))=some y:=(a1T h).2 ⟨by simp,hy⟩;rw[this];rfl
theorem c5i {l:List α} {x:α} (h:Inc nm l) (hx:x∈l):a4M nm l x=l:=
 b4W (a4c x h) h fun z=>by
  rw[a3k h]
  constructor
  ·rintro (rfl|⟨h1,_⟩)
   ·exact hx
   ·exact h1
  ·intro hz
   by_cases e:nm z=nm x
   ·exact .inl (b1U h hz hx e)
   ·exact .inr ⟨hz,e⟩
end
end Go.Sx
set_option linter.all false
namespace Go.Sx
open Go
theorem c8b {l:List Evt} {n:Int} (h:c4e l n=true):(∀e∈l,SmE e)∧((l.length:Nat):Int)≤n:=by
 simp only[c4e,Bool.and_eq_true,decide_eq_true_eq]at h
 refine⟨fun e he=>?_,h.2⟩;obtain⟨_,h1⟩:=a4g h.1 he
 simp only[a6g,Bool.and_eq_true,decide_eq_true_eq]at h1
 refine⟨?_,?_,?_,?_,?_,?_⟩<;>unfold Sm<;>omega
theorem c0s {c:List Kind} (h:c4d c=true):SmC c:=by
 simp only[c4d,Bool.and_eq_true,Bool.not_eq_true',decide_eq_false_iff_not]at h
 intro k hk;obtain⟨_,h1⟩:=a4g h.2 hk
 simp only[a3B,Bool.and_eq_true,Bool.not_eq_true',Bool.or_eq_false_iff,decide_eq_false_iff_not]at h1
 refine⟨by unfold Sm;omega,fun s hs=>?_⟩;obtain⟨_,h2⟩:=a4g h1.2 hs
 simp only[a4T,Bool.and_eq_true,Bool.not_eq_true',Bool.or_eq_false_iff,decide_eq_false_iff_not]at h2
 refine⟨by unfold Sm;omega,fun q hq=>?_⟩;obtain⟨_,h3⟩:=a4g h2.2 hq
 simp only[Bool.not_eq_true',decide_eq_false_iff_not]at h3
 unfold Sm;omega
def c1D:ByteArray:=⟨#[99,111,97,99,104]⟩
def nV1:ByteArray:=⟨#[118,49]⟩
end Go.Sx
set_option linter.all false
namespace Go.Sx
open Go
section
variable {α:Type} [Day α]
def Beg (s:List α) (a:Nat):Prop:=∀j x y,j<a→s[j]? = some x→s[a]? = some y→Day.day x<Day.day y
theorem Beg.zero (s:List α):Beg s 0:=fun j x y h=>absurd h (Nat.not_lt_zero j)
end
theorem a3T (s:ByteArray):a2j s=a1W s:=by
  rw[Bool.eq_iff_iff]
  simp only[a2j,a1W,Bool.and_eq_true,Bool.not_eq_true',decide_eq_false_iff_not,decide_eq_true_eq,a7Q,a8i,List.all_eq_true,List.mem_range,a3e,a7t,Bool.or_eq_true]
  have he:s=⟨#[]⟩↔s.size=0:=by
    constructor
    · rintro rfl;rfl
    · intro h
      cases s with|mk d=>congr 1;exact Array.eq_empty_of_size_eq_zero h
  constructor
  · rintro⟨h1,h2,h3⟩
    have hp : 0 < s.size := by rcases Nat.eq_zero_or_pos s.size with h | h; · exact absurd (he.2 h) h2
                               · exact h
    refine⟨fun i hi=>?_,⟨oM,h3⟩,?_⟩
    · rcases h1 i hi with h|⟨_,h|h⟩
      · exact .inl (.inl h)
      · exact .inl (.inr h)
      · exact .inr h
    · rcases h1 0 hp with h|⟨h,_⟩
      · exact h
      · exact absurd rfl h
  · rintro⟨h1,⟨h2,h3⟩,h4⟩
    refine⟨fun i hi=>?_,fun h=>by have:=he.1 h;omega,h3⟩
    by_cases h0:i=0
    · subst h0;exact .inl h4
    · rcases h1 i hi with (h|h)|h
      · exact .inl h
      · exact .inr ⟨h0,.inl h⟩
      · exact .inr ⟨h0,.inr h⟩
theorem d1u (ks:List ByteArray) (n:ByteArray):hit id ks n=decide (n∈ks):=by
 rw[b3d,Bool.eq_iff_iff,List.any_eq_true,decide_eq_true_eq]
 constructor
 ·rintro⟨x,hx,he⟩;obtain rfl:x=n:=by simpa using he
  exact hx
 ·intro h;exact⟨n,h,by simp⟩
theorem c8q {α:Type} (nm:α→ByteArray) (l:List α) (s:ByteArray):hit nm l s=decide (s∈l.map nm):=by
 rw[b3d,Bool.eq_iff_iff,List.any_eq_true,decide_eq_true_eq,List.mem_map]
 constructor
 ·rintro⟨x,hx,he⟩;exact⟨x,hx,by simpa using he⟩
 ·rintro⟨x,hx,he⟩;exact⟨x,hx,by simp[he]⟩
theorem b5a (pre:List Kind) (ks:List ByteArray) (n:ByteArray):a8r pre ks n=a5z pre ks n:=by
 unfold a8r a5z;rw[d1u]
 have h:d0t Kind.name (fun k=>!k.vehicle) pre n=((a2D pre n).isSome && !((a2D pre n).getD a4Y).vehicle):=by
  unfold d0t a2D
  cases pre.find? fun k=>decide (k.name=n)<;>rfl
 rw[h]
 cases decide (n∈ks)<;>cases (a2D pre n).isSome<;>cases ((a2D pre n).getD a4Y).vehicle<;>rfl
theorem b2z (pre:List Kind) (sl:List Slot) (s:Slot):a3M pre sl s=a3V pre sl s:=by
 unfold a3M a3V b5J;rw[c8q,a3T,show a8r pre=a5z pre from funext fun ks=>funext fun n=>b5a pre ks n]
 cases decide (s.name∈sl.map Slot.name)<;>cases a1W s.name<;>cases decide (s.normal<1)<;>cases decide ((s.kinds.length:Int)<s.normal)<;>cases a2m (a5z pre) s.kinds s.kinds.length<;>rfl
theorem b2a (pre:List Kind) (k:Kind):a3d pre k=a2X pre k:=by
 unfold a3d a2X;rw[a3T,show a3M pre=a3V pre from funext fun sl=>funext fun s=>b2z pre sl s]
 rfl
theorem a3J (c:List Kind):a1a c=a6K c:=by
 unfold a1a a6K;rw[show a3d=a2X from funext fun pre=>funext fun k=>b2a pre k,Bool.and_comm]
 congr 1
 rw[Bool.eq_iff_iff]
 simp
end Go.Sx
set_option linter.all false
namespace Go.Sx
open Go
theorem b5S {α:Type} {f g:List α→α→Bool} (l:List α) (n:Nat):a2m (fun p x=>f p x&&g p x) l n=(a2m f l n&&a2m g l n):=by
 rw[Bool.eq_iff_iff,Bool.and_eq_true]
 simp only[a2m,List.all_eq_true,List.mem_range]
 constructor
 ·intro h;refine⟨fun i hi=>?_,fun i hi=>?_⟩ <;>
  ·have:=h i hi;revert this
   cases l[i]? with
   |none=>simp
   |some x=>intro h;simp_all
 ·rintro⟨h1,h2⟩ i hi;have h3:=h1 i hi;have h4:=h2 i hi;revert h3 h4
  cases l[i]? with
  |none=>simp
  |some x=>intro h3 h4;simp_all
theorem c9t {h:Option Nat→Option Obj} {v:Value} {t:TypeId} {k n:Nat} {xs:List Value} (hr:IsRow h v t k n xs):v.oneCell'=true:=by
 obtain⟨_,⟨rfl,_⟩|⟨g,cap,cur,rfl,_⟩⟩:=hr<;>rfl
theorem c2t {v:Value} (h:v.oneCell'=true):([v]:List Value).all (·.oneCell')=true:=by simp[h]
theorem a5E {n:Sz} {E:Ent} {I:IMap} {L:LL} {H:List Res} {K:Act→World→Prop} {v:Value} {t k m:Nat} {xs:List Value} (h:v.oneCell'=true→SX n E I L (.row v t k m xs::H) K):SX n E I L (.row v t k m xs::H) K:=
 b5M (p:=v.oneCell'=true) (fun w mm=>c9t (mm.holds (.row v t k m xs) (List.mem_cons_self ..))) h
def c3v (i:Ivl):Bool:=(decide (0≤i.low)&&decide (i.low≤i.high))&&decide (i.high≤1000000)
theorem c8x (i:Ivl):c3v i=b0G i:=by
 unfold c3v b0G;rw[Bool.eq_iff_iff];simp
def c7c (u:Use):Bool:=(c3v u.km&&c3v u.cycles)&&c3v u.load
theorem c2R (u:Use):c7c u=b0J u 3:=by
 simp only[c7c,b0J,c8x]
 simp[List.range_succ,b4g,Bool.and_assoc]
def b7W (e:Evt):Evt:=⟨e.op,e.day,e.part,a1b,a1b,a1b,a1b,a1b,d3n⟩
def a7u (e:Evt):Evt:=
 if e.op=1 then { b7W e with kind:=e.kind } else if e.op=2 then { b7W e with into:=e.into,slot:=e.slot } else if e.op=4 then { b7W e with use:=e.use } else if e.op=6 then { b7W e with key:=e.key,value:=e.value } else b7W e
def a7W (e:Evt):Bool:=
 if e.op=1 then a1W e.kind else if e.op=2 then (a1W e.into&&a1W e.slot) && !decide (e.into=e.part) else if e.op=4 then c7c e.use else if e.op=6 then (a1W e.key&&decide ((1:Int)≤(e.value.size:Nat)))&&decide (((e.value.size:Nat):Int)≤200) else true
def a7j (e:Evt):Bool:=(((decide (e.op<1)||decide (7<e.op))||decide (e.day<0))||decide (40000<e.day)) || !a1W e.part
def b0r (e:Evt):Bool:=!a7j e&&(a7W e&&decide (a7u e=e))
theorem b7z {s:ByteArray}:s=a1b↔s.size=0:=by
 constructor
 ·rintro rfl;rfl
 ·intro h
  cases s with|mk d=>congr 1;exact Array.eq_empty_of_size_eq_zero h
theorem d1E (s:ByteArray):decide (((s.size:Nat):Int)<1)=decide (s=a1b):=by
 rw[decide_eq_decide,b7z];omega
theorem d1N (s:ByteArray):decide ((1:Int)≤(s.size:Nat)) = !decide (s=a1b):=by
 rw[←decide_not,decide_eq_decide,b7z];omega
theorem c6M (a b:Int):decide (a≤b) = !decide (b<a):=by
 rw[←decide_not,decide_eq_decide];omega
theorem c0k (e:Evt):a7j e=a9y e:=by
 unfold a7j a9y;rw[a3T]
 congr 3
 rw[Bool.eq_iff_iff,Bool.or_eq_true,decide_eq_true_eq,decide_eq_true_eq,decide_eq_true_eq,b4l]
 omega
theorem c1g (e:Evt):decide (a7u e=e)=decide (a6c e=d3d):=by
 rw[decide_eq_decide];unfold a7u a6c b7W d3d;obtain⟨op,day,part,kind,into,slot,key,value,use⟩:=e
 by_cases h1:op=1
 ·subst h1;simp[eq_comm]
 by_cases h2:op=2
 ·subst h2;simp[eq_comm]
 by_cases h4:op=4
 ·subst h4;simp[eq_comm]
 by_cases h6:op=6
 ·subst h6;simp[eq_comm]
 ·simp[h1,h2,h4,h6,eq_comm]
theorem c8n (e:Evt):a7W e=(!a5M e && !((a1P e).any fun s=>!a2j s)):=by
 unfold a7W a5M a1P
 by_cases h1:e.op=1
 ·simp[h1,a3T]
 by_cases h2:e.op=2
 ·simp[h2,a3T,Bool.and_comm]
 by_cases h4:e.op=4
 ·simp[h4,c2R]
 by_cases h6:e.op=6
 ·rw[if_neg h1,if_neg h2,if_neg h4,if_pos h6,if_neg h2,if_pos h6,if_neg h1,if_neg h2,if_pos h6,d1N,c6M]
  simp only[List.any_cons,List.any_nil,a3T]
  cases a1W e.key<;>cases decide (e.value=a1b)<;>cases decide ((200:Int)<(e.value.size:Nat))<;>rfl
 ·simp[h1,h2,h4,h6]
theorem a8f (e:Evt):b0r e=a1t e:=by
 unfold b0r a1t;rw[c0k,c8n,c1g]
 cases a9y e<;>cases a5M e<;>cases decide (a6c e=d3d)<;>cases (a1P e).any fun s=>!a2j s<;>rfl
def a4k {α:Type} (nm:α→ByteArray) (pre:List α) (x:α):Bool:=match pre.getLast? with|some y=>!sLt (nm y) (nm x)|none=>false
theorem a9Q {α:Type} (nm:α→ByteArray) (pre:List α) (x:α):a4k nm pre x = !a4F nm pre x:=by
 unfold a4k a4F;cases pre.getLast? <;> simp
theorem a2n {α:Type} {nm:α→ByteArray} {l:List α} {i:Nat} (h0:0<i) (hi:i<l.length):a4k nm (l.take i) l[i] = !sLt (nm (l[i-1]'oM)) (nm l[i]):=by
 have:(l.take i).getLast? = some (l[i-1]'oM):=by
  rw[List.getLast?_eq_getElem?,List.length_take,Nat.min_eq_left oM,List.getElem?_take,if_pos oM,List.getElem?_eq_getElem]
 simp only[a4k,this]
theorem a1K {α:Type} {nm:α→ByteArray} {l:List α} {i:Nat} (h0:¬0<i) (x:α):a4k nm (l.take i) x=false:=by
 obtain rfl:i=0:=oM
 simp[a4k]
def b2n (pre:List Prp) (q:Prp):Bool:=!(((!a1W q.key||decide (((q.value.size:Nat):Int)<1))||decide ((200:Int)<(q.value.size:Nat)))||a4k Prp.key pre q)
theorem c5c (pre:List Prp) (q:Prp):b2n pre q=(a4L q&&a4F Prp.key pre q):=by
 unfold b2n a4L;rw[a9Q,a3T];rw[d1E,c6M]
 cases a1W q.key<;>cases decide (q.value=a1b)<;>cases decide ((200:Int)<(q.value.size:Nat))<;>cases a4F Prp.key pre q<;>rfl
def a4W (c:List Kind) (p:Part):Bool:=((((!(a2D c p.kind).isSome || !a1W p.name)||decide (p.made<0))||decide (p.since<p.made))||decide (40000<p.since))||decide ((60:Int)<(p.props.length:Nat))
def c6P (c:List Kind) (p:Part):Bool:=!a4W c p&&(a2m b2n p.props p.props.length&&((a2i p.life.km&&a2i p.life.cycles)&&a2i p.life.damage))
theorem a2t (c:List Kind) (p:Part):c6P c p=a3U c p:=by
 unfold c6P a3U;rw[show a4W c p=a3F c p by unfold a4W a3F;rw[a3T],show b2n=(fun pre q=>a4L q&&a4F Prp.key pre q) from funext fun pre=>funext fun q=>c5c pre q,b5S]
 simp only[b8N]
 cases a3F c p<;>cases a2m (fun _ q=>a4L q) p.props p.props.length<;>cases a2m (a4F Prp.key) p.props p.props.length<;>simp
def a7S (p x:Part):Bool:=decide (x.into=p.into)&&decide (x.slot=p.slot)
def a6M (c:List Kind) (pre:List Part) (p:Part):Bool:=(!c6P c p||a4k Part.name pre p) || !(decide (p.into=a1b) == decide (p.slot=a1b))
def a9k (c:List Kind) (st:List Part) (p:Part):Bool:=((!(a0C st p.into).isSome||p.scrapped)||((a0C st p.into).getD zPart).scrapped) || !a4Q c ((a0C st p.into).getD zPart).kind p.slot p.kind
def a6B (c:List Kind) (st pre:List Part) (p:Part):Bool:=!a6M c pre p&&(decide (p.into=a1b)||(!a9k c st p && !pre.any (a7S p)))
def a6Z (c:List Kind) (st:List Part):Bool:=!(!a6K c||decide ((20000:Int)<(st.length:Nat)))&&a2m (a6B c st) st st.length
theorem c0V (p:Part) (h:¬p.into=a1b) (pre:List Part):hit a3z (a3w pre) (a3z p)=pre.any (a7S p):=by
 rw[b3d,Bool.eq_iff_iff,List.any_eq_true,List.any_eq_true]
 constructor
 ·rintro⟨x,hx,he⟩;rw[a3w,List.mem_filter]at hx
  refine⟨x,hx.1,?_⟩
  simp only[a3z,Prod.mk.injEq,decide_eq_true_eq]at he
  simp[a7S,he.1,he.2]
 ·rintro⟨x,hx,he⟩
  simp only[a7S,Bool.and_eq_true,decide_eq_true_eq]at he
  refine⟨x,?_,by simp[a3z,he.1,he.2]⟩;rw[a3w,List.mem_filter];exact⟨hx,by simp[he.1,h]⟩
theorem c4T (c:List Kind) (st pre:List Part) (p:Part):a6B c st pre p=(a4F Part.name pre p&&a3g c st pre p):=by
 unfold a6B a3g a6M b7V;rw[a9Q,a2t]
 by_cases h:p.into=a1b
 ·simp only[h,decide_true]
  cases a3U c p<;>cases a4F Part.name pre p<;>cases decide (p.slot=a1b)<;>rfl
 ·simp only[a9k,b1F,c0V p h,decide_eq_false h]
  cases a3U c p<;>cases a4F Part.name pre p<;>cases decide (p.slot=a1b)<;>cases (a0C st p.into).isSome<;>cases p.scrapped<;>cases ((a0C st p.into).getD zPart).scrapped<;>cases pre.any (a7S p)<;>cases a4Q c ((a0C st p.into).getD zPart).kind p.slot p.kind<;>rfl
theorem a5p (c:List Kind) (st:List Part):a6Z c st=a2Z c st:=by
 unfold a6Z a2Z b4v;rw[a3J,show a6B c st=(fun pre p=>a4F Part.name pre p&&a3g c st pre p) from funext fun pre=>funext fun p=>c4T c st pre p,b5S]
 simp only[b8N]
 cases a6K c<;>cases decide ((20000:Int)<(st.length:Nat))<;>cases a2m (a4F Part.name) st st.length<;>rfl
section
variable {α:Type} (nm:α→ByteArray) (x:α)
def a5K (s:List α×Bool) (y:α):List α×Bool:=if (!s.2 && !sLt (nm y) (nm x))=true then (s.1++[x],true) else s
def a4G (s:List α×Bool) (y:α):List α×Bool:=if nm y=nm x then a5K nm x s y else ((a5K nm x s y).1++[y],(a5K nm x s y).2)
def wF (l:List α):List α×Bool:=l.foldl (a4G nm x) ([],false)
def b2H (l:List α):List α:=if (wF nm x l).2=true then (wF nm x l).1 else (wF nm x l).1++[x]
variable {nm x}
theorem b2G {l:List α} {i:Nat} (hi:i<l.length):wF nm x (l.take (i+1))=a4G nm x (wF nm x (l.take i)) l[i]:=by
 rw[←a0e hi,wF,List.foldl_append];rfl
theorem d2X (l:List α):(wF nm x l).1.length≤l.length+if (wF nm x l).2=true then 1 else 0:=by
 suffices ∀(l:List α) (s:List α×Bool),(l.foldl (a4G nm x) s).1.length+(if s.2=true then 1 else 0)≤s.1.length+l.length+if (l.foldl (a4G nm x) s).2=true then 1 else 0 by
  have:=this l ([],false);unfold wF
  simp only[Bool.false_eq_true,if_false,List.length_nil,Nat.zero_add,Nat.add_zero]at this
  exact this
 intro l
 induction l with
 |nil=>intro s;rw[List.foldl_nil,List.length_nil];omega
 |cons y r ih=>
  intro s;have h:=ih (a4G nm x s y);rw[List.foldl_cons];obtain⟨s1,s2⟩:=s
  have h2:(a4G nm x (s1,s2) y).1.length+(if s2=true then 1 else 0)≤s1.length+1+(if (a4G nm x (s1,s2) y).2=true then 1 else 0):=by
   unfold a4G a5K
   by_cases he:nm y=nm x
   ·cases s2<;>cases sLt (nm y) (nm x)<;>simp[he]
   ·cases s2<;>cases sLt (nm y) (nm x)<;>simp[he]
  simp only[List.length_cons]
  show _+(if s2=true then 1 else 0)≤s1.length+_+_
  omega
theorem c7i {b:List α} (p:List α) (h:∀y∈b,nm y≠nm x):b.foldl (a4G nm x) (p,true)=(p++b,true):=by
 induction b generalizing p with
 |nil=>simp
 |cons y r ih=>
  rw[List.foldl_cons];have:a4G nm x (p,true) y=(p++[y],true):=by simp[a4G,a5K,h y (by simp)]
  rw[this,ih _ (fun z hz=>h z (by simp[hz]))]
  simp
theorem d4u {p a:List α} (h:∀y∈a,sLt (nm y) (nm x)=true):a.foldl (a4G nm x) (p,false)=(p++a,false):=by
 induction a generalizing p with
 |nil=>simp
 |cons y r ih=>
  rw[List.foldl_cons];have h1:=h y (by simp);have hn:nm y≠nm x:=by intro e;rw[e,a1M]at h1;cases h1
  have:a4G nm x (p,false) y=(p++[y],false):=by simp[a4G,a5K,h1,hn]
  rw[this,ih (fun z hz=>h z (by simp[hz]))]
  simp
theorem b2I {l:List α} (h:Inc nm l):b2H nm x l=a4M nm l x:=by
 rcases b2W l (nm x) h with ⟨a,b,rfl,hc⟩|⟨a,y,b,rfl,hy,hc⟩
 ·rw[b2q hc]
  have h1:wF nm x (a++b)=if b=[] then (a,false) else (a++x::b,true):=by
   rw[wF,List.foldl_append,d4u hc.lo]
   cases b with
   |nil=>simp
   |cons y r=>
    have h2:=hc.hi y (by simp);have hn:nm y≠nm x:=a8n hc (.inr (by simp));rw[List.foldl_cons];have:a4G nm x ([]++a,false) y=(a++[x]++[y],true):=by simp[a4G,a5K,b0g h2,hn]
    rw[this,c7i (nm:=nm) (x:=x) (b:=r) _ (fun z hz=>a8n hc (.inr (by simp[hz])))]
    simp
  unfold b2H;rw[h1]
  by_cases hb:b=[]
  ·subst hb;simp
  ·simp[hb]
 ·rw[a8W hc hy]
  have h1:wF nm x (a++y::b)=(a++x::b,true):=by
   rw[wF,List.foldl_append,d4u hc.lo,List.foldl_cons];have:a4G nm x ([]++a,false) y=(a++[x],true):=by simp[a4G,a5K,hy,a1M]
   rw[this,c7i (nm:=nm) (x:=x) (b:=b) _ (fun z hz=>a8n hc (.inr hz))]
   simp
  unfold b2H;rw[h1];simp
end
theorem c5H {l:List Part} {p:Part} {m i:Nat} (hq:∀j x,j<m→l[j]? = some x→a7S p x=false) (hi:i≤m):(l.take i).any (a7S p)=false:=by
 rw[List.any_eq_false];intro x hx;obtain⟨j,hj,rfl⟩:=List.getElem_of_mem hx;rw[List.length_take]at hj
 rw[List.getElem_take]
 simpa using hq j _ oM (List.getElem?_eq_getElem oM)
theorem c5I {l:List Part} {p:Part} {m i:Nat} (hm:m<i) (hl:m<l.length) (h:a7S p l[m]=true):(l.take i).any (a7S p)=true:=by
 rw[List.any_eq_true];exact⟨l[m],List.mem_iff_getElem.2 ⟨m,by rw[List.length_take];omega,List.getElem_take⟩,h⟩
section
variable {α:Type} {nm:α→ByteArray} {x:α} {l:List α} {i:Nat} {out:List α} {b:Bool}
theorem d0n (hi:i<l.length) (hw:wF nm x (l.take i)=(out,b)) (h1:(!b)=true) (h2:(!sLt (nm l[i]) (nm x))=true) (h3:(!decide (nm l[i]=nm x))=true):wF nm x (l.take (i+1))=(out++[x]++[l[i]],true):=by
 have h4:¬nm l[i]=nm x:=by simpa using h3
 rw[b2G hi,hw,a4G,if_neg h4];simp only[a5K,h1,h2,Bool.and_self,if_true]
theorem d2Y (hi:i<l.length) (hw:wF nm x (l.take i)=(out,b)) (h1:(!b)=true) (h2:(!sLt (nm l[i]) (nm x))=true) (h3:(!decide (nm l[i]=nm x))=false):wF nm x (l.take (i+1))=(out++[x],true):=by
 have h4:nm l[i]=nm x:=by simpa using h3
 rw[b2G hi,hw,a4G,if_pos h4];simp only[a5K,h1,h2,Bool.and_self,if_true]
theorem b9n (hi:i<l.length) (hw:wF nm x (l.take i)=(out,b)) (h1:(!b && !sLt (nm l[i]) (nm x))=false) (h3:(!decide (nm l[i]=nm x))=true):wF nm x (l.take (i+1))=(out++[l[i]],b):=by
 have h4:¬nm l[i]=nm x:=by simpa using h3
 rw[b2G hi,hw,a4G,if_neg h4];simp only[a5K,h1,Bool.false_eq_true,if_false]
theorem c6e (hi:i<l.length) (hw:wF nm x (l.take i)=(out,b)) (h1:(!b && !sLt (nm l[i]) (nm x))=false) (h3:(!decide (nm l[i]=nm x))=false):wF nm x (l.take (i+1))=(out,b):=by
 have h4:nm l[i]=nm x:=by simpa using h3
 rw[b2G hi,hw,a4G,if_pos h4];simp only[a5K,h1,Bool.false_eq_true,if_false]
theorem d4t (hw:wF nm x (l.take i)=(out,b)):out.length≤i+1:=by
 have h:=d2X (nm:=nm) (x:=x) (l.take i);rw[hw,List.length_take]at h
 dsimp only at h;split at h<;>omega
theorem c7k (hw:wF nm x l=(out,b)) (h:(!b)=true):b2H nm x l=out++[x]:=by
 have:b=false:=by simpa using h
 simp[b2H,hw,this]
theorem c7j (hw:wF nm x l=(out,b)) (h:(!b)=false):b2H nm x l=out:=by
 have:b=true:=by simpa using h
 simp[b2H,hw,this]
theorem c3E {p:α→Bool} (h:∀j x,j<l.length→l[j]? = some x→p x=false):l.any p=false:=by
 rw[List.any_eq_false];intro y hy;obtain⟨j,hj,rfl⟩:=List.getElem_of_mem hy
 simpa using h j _ hj (List.getElem?_eq_getElem hj)
theorem b8h {f:α→Bool} (hi:i<l.length) (h:f l[i]=true):(l.take (i+1)).filter f=(l.take i).filter f++[l[i]]:=by
 rw[←a0e hi,List.filter_append];simp[h]
theorem c0v {f:α→Bool} (hi:i<l.length) (h:f l[i]=false):(l.take (i+1)).filter f=(l.take i).filter f:=by
 rw[←a0e hi,List.filter_append];simp[h]
end
def b3D (e:Evt):ByteArray:=if e.op=2 then e.into else e.part
theorem a9V (st:List Part) (e:Evt):a5g st e=a0C st (b3D e):=by unfold a5g b3D;split<;>rfl
def c0S (st:List Part) (into slot:ByteArray):Bool:=st.any fun x=>decide (x.into=into)&&(decide (slot=a1b)||decide (x.slot=slot))
theorem c4s (st:List Part) (s:ByteArray):c0S st s a1b=a1f st s:=by simp[c0S,a1f]
theorem c0T (st:List Part) (e:Evt) (h:e.slot≠a1b):c0S st e.into e.slot=a0S st e:=by simp[c0S,a0S,h]
theorem c4l {e:Evt} (h:a1t e=true) (h2:e.op=2):e.slot≠a1b:=by
 intro he
 simp[a1t,a1P,h2,he]at h
 have:a2j a1b=false:=by decide
 rw[this]at h;simp at h
theorem a5v {st:List Part} {s:ByteArray}:decide (0≤a5w (fun p:Part=>decide (p.name=s)) st)=(a0C st s).isSome:=by
 rw[a7r,a0C,Bool.eq_iff_iff,List.any_eq_true,List.find?_isSome]
theorem a9c {c:List Kind} {st:List Part} {l:List Evt} {i:Nat} (hi:i<l.length) {z:Int}:b3X c st z (l.drop i)=if (a0f c st l[i]).2=0 then b3X c (a0f c st l[i]).1 (z+1) (l.drop (i+1)) else ([],z,(a0f c st l[i]).2):=by
 rw[List.drop_eq_getElem_cons hi];rfl
theorem c1b {α:Type} [Day α] {l:List α} {e:α} {k:Nat} (hk:k≤(a0Q l).length) (h1:∀j y,k≤j→(a0Q l)[j]? = some y→Day.day y>Day.day e)
  (h2:k=0∨∃y,(a0Q l)[k-1]? = some y∧Day.day y≤Day.day e):(a0Q l).take k++e::(a0Q l).drop k=a0Q (l++[e]):=by
 have hs:=a5n l
 have hd:∀y∈(a0Q l).drop k,Day.day e<Day.day y:=by
  intro y hy;obtain⟨j,hj,rfl⟩:=List.getElem_of_mem hy;rw[List.getElem_drop];exact h1 (k+j) _ oM (List.getElem?_eq_getElem _)
 have ht:∀y∈(a0Q l).take k,Day.day y≤Day.day e:=by
  intro y hy
  rcases h2 with rfl|⟨z,hz,hze⟩
  ·simp at hy
  ·obtain⟨j,hj,rfl⟩:=List.getElem_of_mem hy;rw[List.length_take]at hj
   rw[List.getElem_take];obtain⟨hk1,rfl⟩:=List.getElem?_eq_some_iff.1 hz;rw[b4p,List.pairwise_iff_getElem]at hs
   rcases Nat.lt_or_ge j (k-1) with hlt|hge
   ·exact Int.le_trans (hs j (k-1) oM hk1 hlt) hze
   ·obtain rfl:j=k-1:=oM;exact hze
 refine c2A _ _ ?_ (a5n _) fun d=>?_
 ·unfold b4p at hs ⊢
  rw[←List.take_append_drop k (a0Q l),List.pairwise_append]at hs
  rw[List.pairwise_append,List.pairwise_cons];refine⟨hs.1,⟨fun y hy=>Int.le_of_lt (hd y hy),hs.2.1⟩,fun y hy z hz=>?_⟩
  rcases List.mem_cons.1 hz with rfl|hz
  ·exact ht y hy
  ·exact Int.le_trans (ht y hy) (Int.le_of_lt (hd z hz))
 ·rw[a3W,List.filter_append,List.filter_append,←a3W d l,List.filter_cons]
  conv=>rhs;rw[←List.take_append_drop k (a0Q l),List.filter_append]
  by_cases he:Day.day e=d
  ·have:((a0Q l).drop k).filter (fun e=>decide (Day.day e=d))=[]:=by
    rw[List.filter_eq_nil_iff];intro y hy;have:=hd y hy
    simp;omega
   rw[this];simp[he]
  ·simp[he]
end Go.Sx
set_option linter.all false
namespace Go.Sx
open Go
def upP (st:List Part) (n:ByteArray):ByteArray:=((a0C st n).getD zPart).into
def a2Y (st:List Part) (v:ByteArray):Nat→ByteArray→Bool
 |0,_=>false
 |k+1,n=>!decide (upP st n=a1b)&&(decide (upP st n=v)||a2Y st v k (upP st n))
def a8E (st:List Part) (v n:ByteArray):Prop:=((a0C st v).isSome=true∧(a0C st n).isSome=true∧n≠v)∧∃k,a2Y st v k n=true
def a5O (d:Ivl) (u:Use) (p:Part):Part:={ p with life:=⟨b5R p.life.km u.km,b5R p.life.cycles u.cycles,b5R p.life.damage d⟩ }
open Classical in
noncomputable def useL (st:List Part) (e:Evt) (d:Ivl):List Part:=st.map fun p=>if p.name=e.part∨a8E st e.part p.name then a5O d e.use p else p
noncomputable def applyL (f:Fm) (c:List Kind) (st:List Part) (e:Evt):b4n:=
 if (a0f c st e).2=0∧e.op=4 then (useL (a0f c st e).1 e (a6G f e.use),0) else a0f c st e
noncomputable def runLGo (f:Fm) (c:List Kind):List Part→Int→List Evt→c6s
 |s,_,[]=>(s,-1,0)
 |s,i,e::r=>if (applyL f c s e).2=0 then runLGo f c (applyL f c s e).1 (i+1) r else ([],i,(applyL f c s e).2)
noncomputable def runL (f:Fm) (c:List Kind) (l:List Evt) (day:Int):c6s:=
 if (!a1a c || !a1p f)=true then ([],-1,1) else runLGo f c [] 0 (a0Q (l.filter fun e=>!decide (e.day>day)))
def d0A (p:Part):Prop:=(a2i p.life.km=true∧a2i p.life.cycles=true)∧a2i p.life.damage=true
def LfInv (st:List Part):Prop:=∀p∈st,d0A p
section
variable {c:List Kind} {f:Fm} {st:List Part} {p:Part} {e:Evt} {d:Ivl}
theorem b2J:(a2i zLife.km=true∧a2i zLife.cycles=true)∧a2i zLife.damage=true:=by decide
theorem b0W {i:Ivl}:a2i i=true↔0≤i.low∧i.low≤i.high∧i.high≤(1000000000000:Int):=by simp[a2i,and_assoc]
theorem b2d {i u:Ivl} (hi:a2i i=true) (hu:a1D u=true) (h0:0≤u.low):a2i (b5R i u)=true:=by
 have h1:=b0W.1 hi;have h2:=a0V.1 hu;rw[b9v (a0V.2 oM) hu,b0W];unfold a5N;dsimp only;omega
theorem LfInv.put {q:Part} (h:LfInv st) (hq:d0A q):LfInv (a4M Part.name st q):=fun p hp=>by
 rcases b2o hp with rfl|hp
 ·exact hq
 ·exact h p hp
theorem LfInv.apply (h:LfInv st) (e:Evt):LfInv (a0f c st e).1:=by
 have hn:∀n,LfInv (a5S n).1:=fun n p hp=>by cases hp
 have hz:d0A zPart:=b2J
 have hp:d0A (a1V st e):=by
  unfold a1V
  cases hq:a0C st e.part with
  |none=>exact hz
  |some p=>exact h p (a7n hq)
 have hput:∀q:Part,d0A q→LfInv (b7d st q).1:=fun q hq=>h.put hq
 unfold a0f
 split
 ·exact hn _
 split
 ·unfold a2s
  split
  ·exact hn _
  split
  ·exact hn _
  split
  ·exact hn _
  ·exact hput _ b2J
 ·unfold a0q
  split
  ·exact hn _
  split
  ·exact hn _
  ·unfold a0X
   split
   ·unfold a0L
    split
    ·exact hn _
    split
    ·exact hn _
    split
    ·exact hn _
    ·exact hput _ hp
   split
   ·unfold a0m
    split
    ·exact hn _
    ·exact hput _ hp
   split
   ·unfold a0H
    split
    ·exact hn _
    ·exact hput _ hp
   split
   ·exact hput _ b2J
   split
   ·unfold a0B
    split
    ·exact hn _
    ·exact hput _ hp
   split
   ·unfold a0r
    split
    ·exact hn _
    ·exact hput _ hp
   ·exact hput _ hp
theorem LfInv.use (h:LfInv st) (hu:a1D e.use.km=true∧0≤e.use.km.low) (hu2:a1D e.use.cycles=true∧0≤e.use.cycles.low) (hd:a1D d=true∧0≤d.low):LfInv (useL st e d):=fun p hp=>by
 unfold useL at hp
 obtain⟨q,hq,rfl⟩:=List.mem_map.1 hp;have h1:=h q hq
 split
 ·exact⟨⟨b2d h1.1.1 hu.1 hu.2,b2d h1.1.2 hu2.1 hu2.2⟩,b2d h1.2 hd.1 hd.2⟩
 ·exact h1
theorem b4s (h:(a0f c st e).2=0):a1t e=true:=by
 unfold a0f at h
 split at h
 ·cases h
 ·rename_i h2
  have:a2Z c st=true∧a1t e=true:=by simpa using h2
  exact this.2
theorem c9w (h:a1t e=true) (h4:e.op=4):(a1D e.use.km=true∧0≤e.use.km.low)∧(a1D e.use.cycles=true∧0≤e.use.cycles.low)∧b0J e.use 3=true:=by
 have hu:b0J e.use 3=true:=by
  simp only[a1t,Bool.and_eq_true,Bool.not_eq_true']at h
  have h2:=h.1.1.2;unfold a5M at h2
  rw[if_neg oM,if_neg oM,if_pos h4]at h2
  simpa using h2
 have hu2:=hu;rw[←c2R]at hu2
 simp only[c7c,c3v,Bool.and_eq_true,decide_eq_true_eq]at hu2
 exact⟨⟨a0V.2 oM,oM⟩,⟨a0V.2 oM,oM⟩,hu⟩
theorem a4p:(applyL f c st e).2=(a0f c st e).2:=by
 unfold applyL
 split
 ·rename_i h;exact h.1.symm
 ·rfl
theorem LfInv.step (h:LfInv st):LfInv (applyL f c st e).1:=by
 unfold applyL
 split
 ·rename_i hc
  have hu:=c9w (b4s hc.1) hc.2;exact (h.apply e).use hu.1 hu.2.1 c7W
 ·exact h.apply e
theorem LfInv.nil:LfInv []:=fun p h=>by cases h
end
end Go.Sx
set_option linter.all false
namespace Go.Sx
open Go
structure Stp where
 kinds:List Kind
 dam:Fm
instance:Enc Stp where
 k:=4
 rd I vs x:=∃vc sf,vs=[vc,ci x.dam.op,ci x.dam.n,sf]∧RdS I vc x.kinds∧FmRd I [ci x.dam.op,ci x.dam.n,sf] x.dam
 len h:=by obtain⟨_,_,rfl,_⟩:=h;rfl
 mono hI h:=by obtain⟨a,b,rfl,h1,h2⟩:=h;exact⟨a,b,rfl,h1.le hI,h2.le hI⟩
 one h:=by
  obtain⟨a,b,rfl,h1,h2⟩:=h;have h3:=Enc.one (α:=Fm) h2;obtain⟨A,c,rfl,_⟩:=h1
  simp at h3 ⊢
  exact⟨rfl,h3⟩
def d3q (x:Stp):Prop:=(∀k∈x.kinds,d3f k)∧OkFm x.dam
section
variable {P:Program} {t:TypeId}
theorem b5n {tc tf:TypeId} (hf:a1I P t=some [(tc,0,1),(tf,1,3)]) (hc:P.cellsOf t=4) (h1:a2U P tc (List Kind) (fun l=>∀k∈l,d3f k)) (h2:a2U P tf Fm OkFm):a2U P t Stp d3q:=by
 intro H enc w base spare held fuel cs x h;obtain⟨hl,hall⟩:=a2J hf h;rw[hc]at hl
 obtain⟨a0,r0_,rfl,l0_⟩:=a0I hl;obtain⟨a1,r1_,rfl,l1_⟩:=a0I l0_;obtain⟨a2,r2_,rfl,l2_⟩:=a0I l1_;obtain⟨a3,r3_,rfl,l3_⟩:=a0I l2_;obtain rfl:=a5V l3_;obtain⟨n0,y0,h0⟩:=hall (tc,0,1) (by simp);obtain⟨x0,⟨v0,e0,r0⟩,g0⟩:=h1 enc w base spare held n0 _ y0 h0;have e0:[a0]=[v0]:=e0
 cases e0
 obtain⟨n1,y1,h1⟩:=hall (tf,1,3) (by simp);obtain⟨x1,r1,g1⟩:=h2 enc w base spare held n1 _ y1 h1;have r1:FmRd (Iw w) [a1,a2,a3] x1:=r1;obtain⟨s,e1,_⟩:=a2w r1
 simp only[List.cons.injEq,and_true]at e1
 obtain⟨rfl,rfl,rfl⟩:=e1;exact⟨⟨x0,x1⟩,⟨_,_,rfl,r0,r1⟩,g0,g1⟩
theorem b8J {ts ti:TypeId} (hf:a1I P t=some [(ti,0,1),(ti,1,1),(ts,2,1)]) (hc:P.cellsOf t=3) (hs:P.underlying ts=some (.slice t)) (hi:P.underlying ti=some (.int .i64)):a2U P t Fm OkFm:=by
 unfold a1I at hf
 split at hf
 ·rename_i fs h1
  exact c4R h1 (Option.some.inj hf) hc hs hi
 ·cases hf
end
end Go.Sx
set_option linter.all false
namespace Go.Sx
open Go
structure HN (n:Nat) (g:Prop):Prop where
 out:g
theorem HN.z {s:Prop} (h:HN 0 s):s:=h.out
theorem HN.p {s:Prop} {n:Nat} (h:HN (n+1) s):HN n s:=⟨h.out⟩
structure HD (i n:Nat) (g:Prop):Prop where
 out:g
theorem HD.z {i:Nat} {s:Prop} (h:HD i 0 s):s:=h.out
theorem HD.p {s:Prop} {i n:Nat} (h:HD i (n+1) s):HD (i+1) n s:=⟨h.out⟩
class Has {α:Type} (a:Option α) (b:outParam α):Prop where
 eq:a=some b
theorem he {α:Type} {a:Option α} {b:α} [h:Has a b]:a=some b:=h.eq
theorem hk {α:Type} {a:Option α} {b:α} (h:a=some b:=by kernel_rfl):Has a b:=⟨h⟩
theorem sb {L L':LL} (h:Sub L' L:=by repeat (first|exact trivial|refine⟨rfl,?_⟩)):Sub L' L:=h
section
variable {P:Program} {ρ:Option Nat} {n:Sz} {E:Ent} {I I':IMap} {L L':LL} {H H':List Res} {K K':Act→World→Prop} {Q:Exit→Act→World→Prop} {ops:Array Oper}
theorem cb {c:Operand} {x y:Code} {b:Bool} {p q:Prop} (hc:ev L c=some (.bool b)) (ht:b=true→p→SX n E I L H (x.wq ρ P Q)) (hf:b=false→q→SX n E I L H (y.wq ρ P Q))
  (e1:b=true→p:=by first|(intro h;simp only[bO]at h;exact h)|exact fun h=>h) (e2:b=false→q:=by first|(intro h;simp only[bO]at h;exact h)|exact fun h=>h) :
  SX n E I L H ((Code.cond c x y).wq ρ P Q):=d0U hc (fun h=>ht h (e1 h)) (fun h=>hf h (e2 h))
theorem sxb {v:Bool} {p q:Prop} (t:Nat) (h:look L t=some (.bool v)) (h1:v=true→p→SX n E I L H K) (h2:v=false→q→SX n E I L H K)
  (e1:v=true→p:=by first|(intro h;simp only[bO]at h;exact h)|exact fun h=>h) (e2:v=false→q:=by first|(intro h;simp only[bO]at h;exact h)|exact fun h=>h):SX n E I L H K:=c5P t h (fun h=>h1 h (e1 h)) (fun h=>h2 h (e2 h))
theorem d4E {b o:Nat} {cs:List Value} {v:Value} (c:ICells I b o cs) (h:cs[0]? = some v):ICell I b o v:=c 0 v h
theorem ldI {b o j:Nat} {cs:List Value} {v:Value} (c:ICells I b o cs) (h:cs[j]? = some v):ICell I b (o+j) v:=c j v h
variable {d ty:Nat} {pos:String} {af:Array Edge} {x y z:Operand} {tt tx tyy q:Nat} {v:Value}
theorem c8Y (h:OV P n E I L H ⟨some d,.move x,ty,pos,af,none⟩ v):OV P n E I L H ⟨some d,.move x,ty,pos,af,none⟩ v:=h
theorem c2f (h:OV P n E I L H ⟨some d,.assign x,ty,pos,af,none⟩ v):OV P n E I L H ⟨some d,.assign x,ty,pos,af,none⟩ v:=h
theorem b3I (h:OV P n E I L H ⟨some d,.fieldAddr tt x q,ty,pos,af,none⟩ v):OV P n E I L H ⟨some d,.fieldAddr tt x q,ty,pos,af,none⟩ v:=h
theorem c8X (h:OV P n E I L H ⟨some d,.load tt x,ty,pos,af,none⟩ v):OV P n E I L H ⟨some d,.load tt x,ty,pos,af,none⟩ v:=h
theorem c5b (h:OV P n E I L H ⟨some d,.field tt x q,ty,pos,af,none⟩ v):OV P n E I L H ⟨some d,.field tt x q,ty,pos,af,none⟩ v:=h
theorem b8P (h:OV P n E I L H ⟨some d,.extract x q,ty,pos,af,none⟩ v):OV P n E I L H ⟨some d,.extract x q,ty,pos,af,none⟩ v:=h
theorem d2d (h:OV P n E I L H ⟨some d,.unOp .not tt x,ty,pos,af,none⟩ v):OV P n E I L H ⟨some d,.unOp .not tt x,ty,pos,af,none⟩ v:=h
theorem d2c (h:OV P n E I L H ⟨some d,.nilCheck x,ty,pos,af,none⟩ v):OV P n E I L H ⟨some d,.nilCheck x,ty,pos,af,none⟩ v:=h
theorem c8Z (h:OV P n E I L H ⟨some d,.pick x y z,ty,pos,af,none⟩ v):OV P n E I L H ⟨some d,.pick x y z,ty,pos,af,none⟩ v:=h
theorem d2a (h:OV P n E I L H ⟨some d,.binOp .lss tx x y tyy,ty,pos,af,none⟩ v):OV P n E I L H ⟨some d,.binOp .lss tx x y tyy,ty,pos,af,none⟩ v:=h
theorem d1Z (h:OV P n E I L H ⟨some d,.binOp .leq tx x y tyy,ty,pos,af,none⟩ v):OV P n E I L H ⟨some d,.binOp .leq tx x y tyy,ty,pos,af,none⟩ v:=h
theorem d1W (h:OV P n E I L H ⟨some d,.binOp .gtr tx x y tyy,ty,pos,af,none⟩ v):OV P n E I L H ⟨some d,.binOp .gtr tx x y tyy,ty,pos,af,none⟩ v:=h
theorem d1V (h:OV P n E I L H ⟨some d,.binOp .geq tx x y tyy,ty,pos,af,none⟩ v):OV P n E I L H ⟨some d,.binOp .geq tx x y tyy,ty,pos,af,none⟩ v:=h
theorem d1U (h:OV P n E I L H ⟨some d,.binOp .eql tx x y tyy,ty,pos,af,none⟩ v):OV P n E I L H ⟨some d,.binOp .eql tx x y tyy,ty,pos,af,none⟩ v:=h
theorem d2b (h:OV P n E I L H ⟨some d,.binOp .neq tx x y tyy,ty,pos,af,none⟩ v):OV P n E I L H ⟨some d,.binOp .neq tx x y tyy,ty,pos,af,none⟩ v:=h
theorem d1T (h:OV P n E I L H ⟨some d,.binOp .add tx x y tyy,ty,pos,af,none⟩ v):OV P n E I L H ⟨some d,.binOp .add tx x y tyy,ty,pos,af,none⟩ v:=h
theorem d2e (h:OV P n E I L H ⟨some d,.binOp .sub tx x y tyy,ty,pos,af,none⟩ v):OV P n E I L H ⟨some d,.binOp .sub tx x y tyy,ty,pos,af,none⟩ v:=h
theorem c5a {ps:Array (Nat×Operand)} (h:OV P n E I L H ⟨some d,.build tt ps,ty,pos,af,none⟩ v):OV P n E I L H ⟨some d,.build tt ps,ty,pos,af,none⟩ v:=h
theorem b5r {fn:Fn} {a b:Array Operand} (h:OV P n E I L H ⟨some d,.makeFunc fn a b,ty,pos,af,none⟩ v):OV P n E I L H ⟨some d,.makeFunc fn a b,ty,pos,af,none⟩ v:=h
theorem d1X (h:OV P n E I L H ⟨some d,.indexAddr tt x y,ty,pos,af,none⟩ v):OV P n E I L H ⟨some d,.indexAddr tt x y,ty,pos,af,none⟩ v:=h
theorem d1Y (h:OV P n E I L H ⟨some d,.call { callee:=.builtin .len,args:=#[x],argTypes:=#[tx] },ty,pos,af,none⟩ v):OV P n E I L H ⟨some d,.call { callee:=.builtin .len,args:=#[x],argTypes:=#[tx] },ty,pos,af,none⟩ v:=h
theorem va {o:Oper} (h:OV P n E I L H o v:=by
  first
   |((with_unfolding_none refine' c8Y ?_);rotate_left;exact d2M rfl)
   |((with_unfolding_none refine' c2f ?_);rotate_left;exact c5V rfl)
   |((with_unfolding_none refine' b3I ?_);rotate_left;exact b5O he rfl)
   |((with_unfolding_none refine' c8X ?_);rotate_left;(first|exact b0v m0 he rfl rfl|exact b0v m1 he rfl rfl|exact b0v m2 he rfl rfl|exact b0v m3 he rfl rfl|exact b0v m4 he rfl rfl|exact b0v m5 he rfl rfl|exact b0v m6 he rfl rfl|exact a4n m0 he rfl rfl|exact a4n m1 he rfl rfl|exact a4n m2 he rfl rfl|exact a4n m3 he rfl rfl|exact a4n m4 he rfl rfl|exact a4n m5 he rfl rfl|exact a4n m6 he rfl rfl|exact a2P he rfl (by assumption) rfl|exact a1X he rfl (by refine' d4E ?_ ?_;first|(rotate_left;assumption;exact rfl)|(rotate_left 2;assumption;exact rfl))|exact a1X he rfl (by refine' ldI ?_ ?_;first|(rotate_left;assumption;exact rfl)|(rotate_left 2;assumption;exact rfl))))
   |((with_unfolding_none refine' c8Z ?_);rotate_left;(first|exact c2Y rfl rfl|exact c7f rfl rfl|exact c2Z rfl rfl rfl|exact c7e rfl rfl rfl|exact c2Y (by assumption) rfl|exact c7f (by assumption) rfl|exact c2Z (by assumption) rfl rfl|exact c7e (by assumption) rfl rfl))
   |((with_unfolding_none refine' d2a ?_);rotate_left;(first|exact c6a rfl rfl|exact d2T rfl rfl))
   |((with_unfolding_none refine' d1Y ?_);rotate_left;(first|exact a6Y he rfl|exact c3d he rfl))
   |((with_unfolding_none refine' b8P ?_);rotate_left;exact a7N rfl rfl)
   |((with_unfolding_none refine' d2d ?_);rotate_left;exact d4m rfl)
   |((with_unfolding_none refine' d1U ?_);rotate_left;(first|exact b4i rfl rfl|exact d2P rfl rfl))
   |((with_unfolding_none refine' d2b ?_);rotate_left;(first|exact d4l rfl rfl|exact d2U rfl rfl))
   |((with_unfolding_none refine' d1Z ?_);rotate_left;(first|exact d0h rfl rfl|exact d2S rfl rfl))
   |((with_unfolding_none refine' d1W ?_);rotate_left;(first|exact d4k rfl rfl|exact d2R rfl rfl))
   |((with_unfolding_none refine' d1V ?_);rotate_left;(first|exact c5Y rfl rfl|exact d2Q rfl rfl))
   |((with_unfolding_none refine' d1T ?_);rotate_left;exact a2T rfl rfl ⟨oM,oM⟩)
   |((with_unfolding_none refine' d2e ?_);rotate_left;exact a1v rfl rfl ⟨oM,oM⟩)
   |((with_unfolding_none refine' d2c ?_);rotate_left;exact b9m rfl)
   |((with_unfolding_none refine' c5a ?_);rotate_left;exact d0c he he rfl rfl)
   |((with_unfolding_none refine' b5r ?_);rotate_left;exact b9l rfl rfl)
   |((with_unfolding_none refine' d1X ?_);rotate_left;exact a0i he rfl rfl (by assumption) _ (by first|exact rfl|omega) oM)
   |((with_unfolding_none refine' c5b ?_);rotate_left;(first|exact d0d he rfl rfl|exact c5X _ he rfl rfl))):OV P n E I L H o v:=h
theorem d4J {rest:List Oper} {op:Op} {v:Value} (hd:Nat.blt d n.sz=true) (h:OV P n E I L H ⟨some d,op,ty,pos,af,none⟩ v) (k:SX n E I ((d,v)::L) H (wpL P ops Q rest)):SX n E I L H (wpL P ops Q (⟨some d,op,ty,pos,af,none⟩::rest)):=o_v hd h k
theorem d4K {rest:List Oper} {op:Op} {j:Nat} {b:Bool} {v:Value} {t:Nat} {c:Bool} (ht:(ops[j]?).bind (·.dst)=some t) (hb:look L t=some (.bool c)) (hv:c=b) (hd:Nat.blt d n.sz=true) (h:OV P n E I L H ⟨some d,op,ty,pos,af,none⟩ v) (k:SX n E I ((d,v)::L) H (wpL P ops Q rest)):SX n E I L H (wpL P ops Q (⟨some d,op,ty,pos,af,some (j,b)⟩::rest)):=a0P (a0z ht hb hv (a0k hd h k))
theorem d4G {rest:List Oper} {op:Op} {j:Nat} {b:Bool} {t:Nat} {c:Bool} (ht:(ops[j]?).bind (·.dst)=some t) (hb:look L t=some (.bool c)) (hv:c = !b) (hd:Nat.blt d n.sz=true) (k:SX n E I ((d,undef)::L) H (wpL P ops Q rest)):SX n E I L H (wpL P ops Q (⟨some d,op,ty,pos,af,some (j,b)⟩::rest)):=a0P (d4H ht hb hv hd k)
theorem d3Y {rest:List Oper} {op:Op} {j:Nat} {b:Bool} {t:Nat} {c:Bool} (ht:(ops[j]?).bind (·.dst)=some t) (hb:look L t=some (.bool c)) (hv:c = !b) (k:SX n E I L H (wpL P ops Q rest)):SX n E I L H (wpL P ops Q (⟨none,op,ty,pos,af,some (j,b)⟩::rest)):=a0P (d4a ht hb hv k)
theorem d4I {rest:List Oper} {op:Op} {j:Nat} {b:Bool} {t:Nat} (ht:(ops[j]?).bind (·.dst)=some t) (hb:look L t=some undef) (hd:Nat.blt d n.sz=true) (k:SX n E I ((d,undef)::L) H (wpL P ops Q rest)):SX n E I L H (wpL P ops Q (⟨some d,op,ty,pos,af,some (j,b)⟩::rest)):=a0P (d4b ht hb hd k)
variable {ρ:Option Nat} {F:List Res} {I0:IMap} {listed:Array Bool} {fuel:Nat} {fn:Func} {R:Ending→World→Prop} {k m:Nat}
theorem c5e (h:SX n E I L H (one P ops Q ⟨none,.store tt x y,ty,pos,af,none⟩ K)):SX n E I L H (one P ops Q ⟨none,.store tt x y,ty,pos,af,none⟩ K):=h
theorem c5d (h:SX n E I L H (one P ops Q ⟨some d,.alloc tt,ty,pos,af,none⟩ K)):SX n E I L H (one P ops Q ⟨some d,.alloc tt,ty,pos,af,none⟩ K):=h
theorem d2g (h:SX n E I L H (one P ops Q ⟨some d,.box tt x,ty,pos,af,none⟩ K)):SX n E I L H (one P ops Q ⟨some d,.box tt x,ty,pos,af,none⟩ K):=h
theorem d4d {ps:Array (Nat×Operand)} (h:SX n E I L H (one P ops Q ⟨some d,.buildSlice tt m ps,ty,pos,af,none⟩ K)):SX n E I L H (one P ops Q ⟨some d,.buildSlice tt m ps,ty,pos,af,none⟩ K):=h
theorem d2j (h:SX n E I L H (b2K P fn R .ret)):SX n E I L H (b2K P fn R .ret):=h
theorem d2h (h:SX n E I L H (b2K P fn R .normal)):SX n E I L H (b2K P fn R .normal):=h
theorem d2f (h:SX n E I L H (a1u P ops (NQ Q) (a1l E I0 F) fuel listed)):SX n E I L H (a1u P ops (NQ Q) (a1l E I0 F) fuel listed):=h
theorem c9b (h:SX n E I L H (fun a w=>a1l E I0 F w∧K a w)):SX n E I L H (fun a w=>a1l E I0 F w∧K a w):=h
theorem d2i {id:Nat} {l:Array Oper} (h:SX n E I L H ((Code.region id l true).wq ρ P Q)):SX n E I L H ((Code.region id l true).wq ρ P Q):=h
theorem c9a {c:Operand} {x y:Code} (h:SX n E I L H ((Code.cond c x y).wq ρ P Q)):SX n E I L H ((Code.cond c x y).wq ρ P Q):=h
theorem rv {r:ResultVar} {v:Value} (h:RV P L H r v:=by
  first
   |exact rfl
   |exact⟨_,_,_,rfl,m0,.inr ⟨_,he,rfl,rfl⟩⟩|exact⟨_,_,_,rfl,m0,.inl ⟨he,rfl⟩⟩
   |exact⟨_,_,_,rfl,m1,.inr ⟨_,he,rfl,rfl⟩⟩|exact⟨_,_,_,rfl,m1,.inl ⟨he,rfl⟩⟩
   |exact⟨_,_,_,rfl,m2,.inr ⟨_,he,rfl,rfl⟩⟩|exact⟨_,_,_,rfl,m2,.inl ⟨he,rfl⟩⟩
   |exact⟨_,_,_,rfl,m3,.inr ⟨_,he,rfl,rfl⟩⟩|exact⟨_,_,_,rfl,m3,.inl ⟨he,rfl⟩⟩
   |exact⟨_,_,_,rfl,m4,.inr ⟨_,he,rfl,rfl⟩⟩|exact⟨_,_,_,rfl,m4,.inl ⟨he,rfl⟩⟩):RV P L H r v:=h
theorem sl {F:List Res} (h:List.Sublist F H:=by repeat (first|exact .refl _|exact .slnil|exact List.nil_sublist _|refine .cons₂ _ ?_|refine .cons _ ?_)):List.Sublist F H:=h
theorem kp (h:∀w,Mem E I H w→a1l E I0 F w:=by
  first
   |exact fun _ m=>m.keeps sl
   |exact fun _ m=>m.keepsI sl (by repeat (first|assumption|exact ILe.refl _|refine ILe.trans ?_ (by assumption))) (by assumption) (by assumption)):∀w,Mem E I H w→a1l E I0 F w:=h
theorem gg {g s:Prop} {n:Nat} (h0:HN n s) (h:HN n s→g:=by
  intro h
  repeat (first
   |exact HN.z h
   |replace h:=HN.p h;first
    |((with_unfolding_none refine' d4J ?_ ?_ ?_);rotate_left;exact rfl;exact va)
    |with_unfolding_none refine d2l ?_
    |with_unfolding_none refine d3Z ?_
    |with_unfolding_none refine d3F ?_
    |with_unfolding_none refine c3N ?_
    |with_unfolding_none refine d0W ?_
    |with_unfolding_none refine b8S ?_
    |with_unfolding_none refine d3E ?_
    |with_unfolding_none refine c7B ?_
    |with_unfolding_none refine c9e ?_
    |with_unfolding_none refine b5u ?_
    |with_unfolding_none refine b5s ?_
    |with_unfolding_none refine d0V ?_
    |with_unfolding_none refine b8Q ?_
    |((with_unfolding_none refine' d4G ?_ ?_ ?_ ?_ ?_);rotate_left 2;exact rfl;exact rfl;(first|exact rfl|assumption);exact rfl)
    |((with_unfolding_none refine' d4I ?_ ?_ ?_ ?_);rotate_left;exact rfl;exact rfl;exact rfl)
    |((with_unfolding_none refine' d3Y ?_ ?_ ?_ ?_);rotate_left 2;exact rfl;exact rfl;(first|exact rfl|assumption))
    |((with_unfolding_none refine' d4K ?_ ?_ ?_ ?_ ?_ ?_);rotate_left 3;exact rfl;exact rfl;(first|exact rfl|assumption);exact rfl;exact va)
    |((with_unfolding_none refine b8R ?_ ?_);exact rfl)
    |((with_unfolding_none refine c5e ?_);first|refine a1A _ he rfl rfl rfl rfl rfl rfl ?_|refine a5A he rfl rfl rfl rfl ?_|refine d4c _ _ he rfl rfl rfl rfl rfl rfl rfl ?_)
    |((with_unfolding_none refine c9b ?_);refine d3G kp ?_)
    |((with_unfolding_none refine d2f ?_);refine d1c (by kernel_rfl) ?_)
    |((with_unfolding_none refine d2j ?_);first|refine d4z rfl rv ?_|refine c8e rfl rv rv ?_|refine d4y rfl ?_|refine d4A rfl rv rv rv ?_|refine d4B rfl rv rv rv rv ?_)
    |((with_unfolding_none refine d2h ?_);refine d4x rfl ?_)
    |((with_unfolding_none refine c9a ?_);first|refine d0X rfl ?_|refine c7C rfl ?_)
    |((with_unfolding_none refine c5d ?_);refine c8I he rfl ?_)
    |((with_unfolding_none refine d2i ?_);refine c3T (by kernel_rfl) ?_)
    |((with_unfolding_none refine d2g ?_);refine d3X _ rfl rfl rfl ?_)
    |((with_unfolding_none refine d4d ?_);refine b3y he he rfl rfl rfl rfl rfl rfl rfl ?_)
    |with_unfolding_none refine a0P ?_)):g:=h h0
theorem go {g s:Prop} (n:Nat) (hs:s) (h:HN n s→g:=by intro h;exact gg h):g:=h ⟨hs⟩
theorem gC {g:Prop} {c:Operand} {x y:Code} {b:Bool} {p q:Prop} (k:Nat) (ht:b=true→p→SX n E I L H (x.wq ρ P Q)) (hf:b=false→q→SX n E I L H (y.wq ρ P Q))
  (h:HN k (SX n E I L H ((Code.cond c x y).wq ρ P Q))→g:=by intro h;exact gg h) (hc:ev L c=some (.bool b):=by exact rfl)
  (e1:b=true→p:=by first|(intro h;simp only[bO]at h;exact h)|exact fun h=>h) (e2:b=false→q:=by first|(intro h;simp only[bO]at h;exact h)|exact fun h=>h):g:=h ⟨cb hc ht hf e1 e2⟩
theorem gS {g:Prop} {v:Bool} {p q:Prop} (k t:Nat) (h1:v=true→p→SX n E I L H K) (h2:v=false→q→SX n E I L H K)
  (h:HN k (SX n E I L H K)→g:=by intro h;exact gg h) (hl:look L t=some (.bool v):=by exact rfl)
  (e1:v=true→p:=by first|(intro h;simp only[bO]at h;exact h)|exact fun h=>h) (e2:v=false→q:=by first|(intro h;simp only[bO]at h;exact h)|exact fun h=>h):g:=h ⟨sxb t hl h1 h2 e1 e2⟩
section
variable {s:Prop} {i m:Nat} {o:Oper} {l:List Oper}
theorem atL (hi:l[i]? = some o):l.toArray[i]? = some o:=by simpa using hi
theorem d1e (_:HD i m s) (hi:l[i]? = some o) (hdst:o.dst=some d) (hk:okC l.toArray listed i=true) (hd:Nat.blt d n.sz=true) (hs:List.Sublist F H)
  (hg:o.guard=none) (hv:OV P n E I L F o v) (k:SX n E I ((d,v)::L) H (a1u P l.toArray (NQ Q) (a1l E I F) fuel (listed.setIfInBounds i true))) :
  SX n E I L H (a1u P l.toArray (NQ Q) (a1l E I F) (fuel+1) listed):=a0F i (atL hi) hdst hk hd hs hg hv k
theorem c6D (_:HD i m s) (hi:l[i]? = some o) (hdst:o.dst=some d) (hk:okC l.toArray listed i=true) (hd:Nat.blt d n.sz=true)
  (hC:∀w,Mem E I H w→a1l E I0 F w) (hv:∀a,St n a L→YieldsC P l.toArray (a1l E I0 F) o v a) (k:SX n E I ((d,v)::L) H (a1u P l.toArray (NQ Q) (a1l E I0 F) fuel (listed.setIfInBounds i true))) :
  SX n E I L H (a1u P l.toArray (NQ Q) (a1l E I0 F) (fuel+1) listed):=d_t i (atL hi) hdst hk hd hC hv k
theorem d1d (_:HD i m s) (hr:Region.ready .any l.toArray listed=[i]) (hi:l[i]? = some o)
  (k:SX n E I L H (one P l.toArray (NQ Q) o fun a w=>a1l E I0 F w∧a1u P l.toArray (NQ Q) (a1l E I0 F) fuel (listed.setIfInBounds i true) a w)) :
  SX n E I L H (a1u P l.toArray (NQ Q) (a1l E I0 F) (fuel+1) listed):=d3H i hr (atL hi) k
end
section
variable {o p q:Oper} {l:List Oper}
theorem ds1 {r:Res} {id:Nat} (h:SX n E I L (r::H) (a1u P l.toArray (NQ Q) (a1l E I H) l.length (Array.replicate l.length false))) (hm:P.follows .mixedOrders=true:=by kernel_rfl):SX n E I L (r::H) ((Code.region id l.toArray true).wq ρ P Q):=b1N H hm h
theorem ds2 {r r2:Res} {id:Nat} (h:SX n E I L (r::r2::H) (a1u P l.toArray (NQ Q) (a1l E I H) l.length (Array.replicate l.length false))) (hm:P.follows .mixedOrders=true:=by kernel_rfl):SX n E I L (r::r2::H) ((Code.region id l.toArray true).wq ρ P Q):=b1N H hm h
theorem dT2 (i j:Nat)
  (k1:SX n E I L H (one P l.toArray (NQ Q) o fun a w=>a1l E I0 F w∧a1u P l.toArray (NQ Q) (a1l E I0 F) fuel (listed.setIfInBounds i true) a w))
  (k2:SX n E I L H (one P l.toArray (NQ Q) p fun a w=>a1l E I0 F w∧a1u P l.toArray (NQ Q) (a1l E I0 F) fuel (listed.setIfInBounds j true) a w))
  (hr:Region.ready .any l.toArray listed=[i,j]:=by kernel_rfl) (hi:l[i]? = some o:=by exact rfl) (hj:l[j]? = some p:=by exact rfl) :
  SX n E I L H (a1u P l.toArray (NQ Q) (a1l E I0 F) (fuel+1) listed):=d3I i j hr (atL hi) (atL hj) k1 k2
theorem dT3 (i j k:Nat)
  (k1:SX n E I L H (one P l.toArray (NQ Q) o fun a w=>a1l E I0 F w∧a1u P l.toArray (NQ Q) (a1l E I0 F) fuel (listed.setIfInBounds i true) a w))
  (k2:SX n E I L H (one P l.toArray (NQ Q) p fun a w=>a1l E I0 F w∧a1u P l.toArray (NQ Q) (a1l E I0 F) fuel (listed.setIfInBounds j true) a w))
  (k3:SX n E I L H (one P l.toArray (NQ Q) q fun a w=>a1l E I0 F w∧a1u P l.toArray (NQ Q) (a1l E I0 F) fuel (listed.setIfInBounds k true) a w))
  (hr:Region.ready .any l.toArray listed=[i,j,k]:=by kernel_rfl) (hi:l[i]? = some o:=by exact rfl) (hj:l[j]? = some p:=by exact rfl) (hk:l[k]? = some q:=by exact rfl) :
  SX n E I L H (a1u P l.toArray (NQ Q) (a1l E I0 F) (fuel+1) listed):=c7V i j k hr (atL hi) (atL hj) (atL hk) k1 k2 k3
end
theorem dG {g s:Prop} (i n:Nat) (hs:s) (h:HD i n s→g:=by
  intro h
  try ((with_unfolding_none refine c9b ?_);refine d3G kp ?_)
  repeat (first
   |exact HD.z h
   |(first
     |refine d1e h rfl rfl (by kernel_rfl) rfl sl rfl va ?_
     |refine c6D h rfl rfl (by kernel_rfl) rfl kp (d4v rfl rfl (by first|exact rfl|assumption)) ?_
     |refine c6D h rfl rfl (by kernel_rfl) rfl kp (y_v rfl va) ?_
     |refine c6D h rfl rfl (by kernel_rfl) rfl kp (a2L rfl rfl (by first|exact rfl|assumption) va) ?_
     |refine c6D h rfl rfl (by kernel_rfl) rfl kp (d3c rfl rfl) ?_);replace h:=HD.p h)):g:=h ⟨hs⟩
theorem dH {g s:Prop} (i n:Nat) (hs:s) (h:HD i n s→g:=by
  intro h
  try ((with_unfolding_none refine c9b ?_);refine d3G kp ?_)
  repeat (first
   |(have h0:=HD.z h;refine d1d h (by kernel_rfl) rfl ?_;exact h0)
   |(first
     |refine d1e h rfl rfl (by kernel_rfl) rfl sl rfl va ?_
     |refine c6D h rfl rfl (by kernel_rfl) rfl kp (d4v rfl rfl (by first|exact rfl|assumption)) ?_
     |refine c6D h rfl rfl (by kernel_rfl) rfl kp (y_v rfl va) ?_
     |refine c6D h rfl rfl (by kernel_rfl) rfl kp (a2L rfl rfl (by first|exact rfl|assumption) va) ?_
     |refine c6D h rfl rfl (by kernel_rfl) rfl kp (d3c rfl rfl) ?_);replace h:=HD.p h)):g:=h ⟨hs⟩
end
section
variable {P:Program} {n:Sz} {E:Ent} {I I':IMap} {L:LL} {H:List Res} {K:Act→World→Prop} {Q:Exit→Act→World→Prop} {ops:Array Oper}
variable {d ty:Nat} {pos:String} {af:Array Edge} {fo:Operand} {as_:List Operand} {ats:Array TypeId} {f:FuncId} {args:List Value}
theorem cV {v:Value} (hc:FnV P f args.toArray I v) (k:SX n E I ((d,v)::L) H K) (h:a1z L fo as_=some (f,args):=by exact rfl) (hd:Nat.blt d n.sz=true:=by exact rfl) :
  SX n E I L H (one P ops Q ⟨some d,.call { callee:=.value fo,args:=as_.toArray,argTypes:=ats },ty,pos,af,none⟩ K):=a0x hc h hd k
end
end Go.Sx
namespace Go.Proofs.YtkndpfncklhhlaaGreat
open Go Go.Sx Tryz
set_option linter.all false
set_option maxRecDepth 20000
set_option maxHeartbeats 4000000
instance:Has (b9B prog 212) (256,5,1):=hk
instance:Has (a9w prog 117) (9,1):=hk
instance:Has (tyK prog 212) (true,256):=hk
instance:Has (tyK prog 5) (false,1):=hk
instance:Has (tyK prog 9) (false,1):=hk
instance T.und_117:Has (prog.underlying 117) (.slice 9):=hk
instance T.und_3:Has (prog.underlying 3) (.int .i64):=hk
instance:Has (prog.underlying 5) (.int .u8):=hk
instance T.und_9:Has (prog.underlying 9) (.string):=hk
instance:Has (a2r prog 212) [.int .u8 0,.int .u8 0,.int .u8 0,.int .u8 0,.int .u8 0,.int .u8 0,.int .u8 0,.int .u8 0,.int .u8 0,.int .u8 0,.int .u8 0,.int .u8 0,.int .u8 0,.int .u8 0,.int .u8 0,.int .u8 0,.int .u8 0,.int .u8 0,.int .u8 0,.int .u8 0,.int .u8 0,.int .u8 0,.int .u8 0,.int .u8 0,.int .u8 0,.int .u8 0,.int .u8 0,.int .u8 0,.int .u8 0,.int .u8 0,.int .u8 0,.int .u8 0,.int .u8 0,.int .u8 0,.int .u8 0,.int .u8 0,.int .u8 0,.int .u8 0,.int .u8 0,.int .u8 0,.int .u8 0,.int .u8 0,.int .u8 0,.int .u8 0,.int .u8 0,.int .u8 0,.int .u8 0,.int .u8 0,.int .u8 0,.int .u8 0,.int .u8 0,.int .u8 0,.int .u8 0,.int .u8 0,.int .u8 0,.int .u8 0,.int .u8 0,.int .u8 0,.int .u8 0,.int .u8 0,.int .u8 0,.int .u8 0,.int .u8 0,.int .u8 0,.int .u8 0,.int .u8 0,.int .u8 0,.int .u8 0,.int .u8 0,.int .u8 0,.int .u8 0,.int .u8 0,.int .u8 0,.int .u8 0,.int .u8 0,.int .u8 0,.int .u8 0,.int .u8 0,.int .u8 0,.int .u8 0,.int .u8 0,.int .u8 0,.int .u8 0,.int .u8 0,.int .u8 0,.int .u8 0,.int .u8 0,.int .u8 0,.int .u8 0,.int .u8 0,.int .u8 0,.int .u8 0,.int .u8 0,.int .u8 0,.int .u8 0,.int .u8 0,.int .u8 0,.int .u8 0,.int .u8 0,.int .u8 0,.int .u8 0,.int .u8 0,.int .u8 0,.int .u8 0,.int .u8 0,.int .u8 0,.int .u8 0,.int .u8 0,.int .u8 0,.int .u8 0,.int .u8 0,.int .u8 0,.int .u8 0,.int .u8 0,.int .u8 0,.int .u8 0,.int .u8 0,.int .u8 0,.int .u8 0,.int .u8 0,.int .u8 0,.int .u8 0,.int .u8 0,.int .u8 0,.int .u8 0,.int .u8 0,.int .u8 0,.int .u8 0,.int .u8 0,.int .u8 0,.int .u8 0,.int .u8 0,.int .u8 0,.int .u8 0,.int .u8 0,.int .u8 0,.int .u8 0,.int .u8 0,.int .u8 0,.int .u8 0,.int .u8 0,.int .u8 0,.int .u8 0,.int .u8 0,.int .u8 0,.int .u8 0,.int .u8 0,.int .u8 0,.int .u8 0,.int .u8 0,.int .u8 0,.int .u8 0,.int .u8 0,.int .u8 0,.int .u8 0,.int .u8 0,.int .u8 0,.int .u8 0,.int .u8 0,.int .u8 0,.int .u8 0,.int .u8 0,.int .u8 0,.int .u8 0,.int .u8 0,.int .u8 0,.int .u8 0,.int .u8 0,.int .u8 0,.int .u8 0,.int .u8 0,.int .u8 0,.int .u8 0,.int .u8 0,.int .u8 0,.int .u8 0,.int .u8 0,.int .u8 0,.int .u8 0,.int .u8 0,.int .u8 0,.int .u8 0,.int .u8 0,.int .u8 0,.int .u8 0,.int .u8 0,.int .u8 0,.int .u8 0,.int .u8 0,.int .u8 0,.int .u8 0,.int .u8 0,.int .u8 0,.int .u8 0,.int .u8 0,.int .u8 0,.int .u8 0,.int .u8 0,.int .u8 0,.int .u8 0,.int .u8 0,.int .u8 0,.int .u8 0,.int .u8 0,.int .u8 0,.int .u8 0,.int .u8 0,.int .u8 0,.int .u8 0,.int .u8 0,.int .u8 0,.int .u8 0,.int .u8 0,.int .u8 0,.int .u8 0,.int .u8 0,.int .u8 0,.int .u8 0,.int .u8 0,.int .u8 0,.int .u8 0,.int .u8 0,.int .u8 0,.int .u8 0,.int .u8 0,.int .u8 0,.int .u8 0,.int .u8 0,.int .u8 0,.int .u8 0,.int .u8 0,.int .u8 0,.int .u8 0,.int .u8 0,.int .u8 0,.int .u8 0,.int .u8 0,.int .u8 0,.int .u8 0,.int .u8 0,.int .u8 0,.int .u8 0,.int .u8 0,.int .u8 0,.int .u8 0,.int .u8 0,.int .u8 0,.int .u8 0,.int .u8 0,.int .u8 0,.int .u8 0,.int .u8 0,.int .u8 0,.int .u8 0,.int .u8 0,.int .u8 0]:=hk
theorem b6z (I:IMap) (c:UInt8) :
    FnV prog 192 #[.int .u8 (c.toNat:Int)] I (.bool (a3u c)):=by
 refine enter func192 call192 rfl ntmps192 rfl fun w0=>?_;refine gS 10 5 (fun h5 p5=>?_) fun h5 p5=>?_
 ·refine gS 4 9 (fun h9 p9=>?_) fun h9 p9=>?_
  ·refine go 12 ?_;exact q_v (by simp[a3u,h5,h9])
  ·refine gS 3 12 (fun h12 p12=>?_) fun h12 p12=>?_
   ·refine go 9 ?_;exact q_v (by simp[a3u,h5,h9,h12])
   ·refine go 9 ?_;exact q_v (by simp[a3u,h5,h9,h12])
 ·refine gS 7 12 (fun h12 p12=>?_) fun h12 p12=>?_
  ·refine go 9 ?_;exact q_v (by simp[a3u,h5,h12])
  ·refine go 9 ?_;exact q_v (by simp[a3u,h5,h12])
theorem c7Y (I:IMap) (c:UInt8) :
    FnV prog 233 #[.int .u8 (c.toNat:Int)] I (.bool (a3i c)):=by
 refine enter func233 call233 rfl ntmps233 rfl fun w0=>?_;refine gS 10 5 (fun h5 p5=>?_) fun h5 p5=>?_
 ·refine go 8 ?_;exact q_v (by simp[a3i,h5])
 ·refine go 8 ?_;exact q_v (by simp[a3i,h5])
theorem d3a (I:IMap) (c:UInt8) :
    FnV prog 191 #[.int .u8 (c.toNat:Int)] I (.bool (a7t c)):=by
 refine enter func191 call191 rfl ntmps191 rfl fun w0=>?_;refine go 9 ?_;refine cV (b6z _ c) ?_;refine gS 1 5 (fun h5 p5=>?_) fun h5 p5=>?_
 ·refine go 12 ?_;exact q_v (by simp[a7t,h5])
 ·refine go 2 ?_;refine a0z rfl rfl h5 (a0x (c7Y _ c) rfl rfl ?_);refine gS 2 9 (fun h9 p9=>?_) fun h9 p9=>?_
  ·refine go 8 ?_;exact q_v (by simp[a7t,h5,h9])
  ·refine go 8 ?_;exact q_v (by simp[a7t,h5,h9])
theorem a7w (I:IMap) (s:ByteArray) (hs:s.size≤9223372036854775807) :
    FnV prog 145 #[.string s] I (.bool (a1W s)):=by
 refine enter func145 call145 rfl ntmps145 rfl fun w0=>?_;refine go 12 ?_
 refine a0w (α:=Nat) 0 (fun i=>I)
  (fun i=>[(0,.string s),(3,.int .i64 (i:Int))])
  (fun i=>[])
  (fun i=>i≤s.size∧a8i s i=true)
  (fun i=>s.size-i) ⟨Nat.zero_le _,rfl⟩ rfl sb rfl ?_
 intro i ⟨hi,hn⟩;refine gC 9 (fun h7 p7=>?_) fun h7 p7=>?_
 ·refine go 8 ?_;refine o_v rfl (c3g he rfl rfl i oM oM) ?_;refine go 1 ?_;refine cV (d3a _ _) ?_;refine gC 3 (fun h14 p14=>?_) fun h14 p14=>?_
  ·refine go 12 ?_;exact q_v (by simp[a1W,c3m (show i<s.size from oM) p14])
  ·refine go 9 ?_;exact a0s (i+1) ⟨oM,b9o hn p14⟩ oM rfl sb rfl
 ·refine gS 11 18 (fun h18 p18=>?_) fun h18 p18=>?_
  ·refine gS 5 23 (fun h23 p23=>?_) fun h23 p23=>?_
   ·refine go 1 ?_;refine a0P (a0z rfl rfl h23 (a0k rfl (c3g he rfl rfl 0 oM oM) ?_));refine go 1 ?_;refine a0z rfl rfl h23 (a0x (b6z _ _) rfl rfl ?_);refine go 6 ?_;exact q_v (by have e:i=s.size:=oM;subst e;simp only[a1W,hn,h7,h18,h23,bS])
   ·refine go 9 ?_;exact q_v (by have e:i=s.size:=oM;subst e;simp only[a1W,hn,h7,h18,h23,bS])
  ·refine go 14 ?_;exact q_v (by have e:i=s.size:=oM;subst e;simp only[a1W,hn,h7,h18,bS])
theorem d3N (I:IMap) (v:Value) (l:List ByteArray) (s:ByteArray) (hv:RdS I v l) :
    FnV prog 149 #[v,.string s] I (.bool (decide (s∈l))):=by
 obtain⟨A,c,rfl,hA,hc,hm⟩:=hv;refine enter func149 call149 rfl ntmps149 rfl fun w0=>?_;refine go 12 ?_
 refine a0w (α:=Nat) 0 (fun i=>I)
  (fun i=>[(0,.slice A l.length c),(1,.string s),(5,.int .i64 (i:Int))])
  (fun i=>[])
  (fun i=>i≤l.length∧∀j,j<i→l[j]? ≠ some s)
  (fun i=>l.length-i) ⟨Nat.zero_le _,fun j hj=>absurd hj (Nat.not_lt_zero j)⟩ rfl sb rfl ?_
 intro i ⟨hi,hn⟩;refine gC 9 (fun h9 p9=>?_) fun h9 p9=>?_
 ·have hlt:i<l.length:=oM;refine go 8 ?_;obtain⟨b14,o14,w14,e14,c14,r14⟩:=RdA.at_ hA (i:=i) hlt;obtain rfl:=r14;refine gC 6 (fun h17 p17=>?_) fun h17 p17=>?_
  ·refine go 12 ?_;exact q_v (by rw[←p17];simp)
  ·refine go 9 ?_;exact a0s (i+1) ⟨oM,fun j hj=>c9R hn hlt p17 j hj⟩ oM rfl sb rfl
 ·refine go 12 ?_;exact q_v (by simp only[b9g l s (fun j hj=>hn j oM)])
theorem a6Q (args:Array Value) (w:World):(callFunc 255 args).run prog w=((Extern.BytealgIndexByte.indexByte args).run prog w).andThen fun v w'=>.ok (.value v) w':=by
 have h1:Extern.findNext Tryz.f255=none:=by kernel_rfl
 have h2:Extern.find Tryz.f255=some Extern.BytealgIndexByte.indexByte:=by kernel_rfl
 have h3 : (Tryz.f255.name == "runtime.NumGoroutine") = false := by kernel_rfl
 have h4:Tryz.f255.body.isNone=true:=rfl
 simp only[callFunc,Sem.run_bind,run_program,Result.andThen_ok,func255,h3,h4,h1,h2]
 simp
theorem a9F (I:IMap) (s:ByteArray) (c:UInt8):FnV prog 255 #[.string s,.int .u8 (c.toNat:Int)] I (.int .i64 (Lib.indexByte s.data.toList c)):=by
 refine⟨fun w m=>?_⟩;unfold After;rw[a6Q,Lib.run_indexByteString];exact⟨_,I,[],rfl,m,by simp,rfl,rfl⟩
theorem b1V (I:IMap) (s:ByteArray) (c:UInt8) :
    FnV prog 239 #[.string s,.int .u8 (c.toNat:Int)] I (.int .i64 (Lib.indexByte s.data.toList c)):=by
 refine enter func239 call239 rfl ntmps239 rfl fun w0=>?_;refine go 10 ?_;refine cV (a9F I s c) ?_;refine go 5 ?_;exact q_v rfl
theorem indexByte (I:IMap) (s:ByteArray) (c:UInt8) :
    FnV prog 200 #[.string s,.int .u8 (c.toNat:Int)] I (.int .i64 (Lib.indexByte s.data.toList c)):=by
 refine enter func200 call200 rfl ntmps200 rfl fun w0=>?_;refine go 10 ?_;refine cV (b1V I s c) ?_;refine go 5 ?_;exact q_v rfl
theorem c7I (I:IMap) :
    FnV prog 162 #[] I (.agg clsTab.toArray):=by
 refine enter func162 call162 rfl ntmps162 rfl fun w0=>?_;refine go 4 fun g0=>?_
 refine go 6 fun g1=>?_
 refine go 9 ?_
 refine a0w (α:=Nat) 0 (fun i=>I)
  (fun i=>[(1,.pointer (some ⟨g1,0,none⟩)),(0,.pointer (some ⟨g0,0,none⟩)),(4,.int .i64 (i:Int))])
  (fun i=>[.blk g1 212 (a3P i),.blk g0 212 (a3P 0)])
  (fun i=>i≤256)
  (fun i=>256-i) oM rfl sb rfl ?_
 intro i hi;refine gC 6 (fun h5 p5=>?_) fun h5 p5=>?_
 ·have hlt:i<256:=oM;have hb:((i.toUInt8.toNat:Nat):Int)=(i:Int):=by simp;omega
  refine go 3 ?_;refine a1h (I':=I) (L':=[(1,.pointer (some ⟨g1,0,none⟩)),(0,.pointer (some ⟨g0,0,none⟩)),(4,.int .i64 (i:Int))]) (H':=[.blk g1 212 (a3P (i+1)),.blk g0 212 (a3P 0)]) ?_ ?_
  ·refine go 10 ?_;refine o_v rfl (a2d he he rfl (m:=((i.toUInt8.toNat:Nat):Int)) (by rw[hb];exact c3o i hlt)) ?_;refine go 5 ?_;refine b9M (L':=[(1,.pointer (some ⟨g1,0,none⟩)),(0,.pointer (some ⟨g0,0,none⟩)),(4,.int .i64 (i:Int)),(2,.int .i64 (i:Int)),(3,.int .u8 (i.toUInt8.toNat:Int)),(9,.bool (a6E i.toUInt8||b0x i.toUInt8))]) ?_ ?_
   ·refine go 1 ?_;refine b9M (L':=[(1,.pointer (some ⟨g1,0,none⟩)),(0,.pointer (some ⟨g0,0,none⟩)),(4,.int .i64 (i:Int)),(2,.int .i64 (i:Int)),(3,.int .u8 (i.toUInt8.toNat:Int)),(9,.bool (a6E i.toUInt8))]) ?_ ?_
    ·refine gS 4 12 (fun h12 p12=>?_) fun h12 p12=>?_
     ·refine go 6 ?_;exact a0h ⟨rfl,rfl,rfl,rfl,rfl,(bB (by simp only[a6E,h5,h12,bS])),trivial⟩ rfl rfl
     ·refine go 6 ?_;exact a0h ⟨rfl,rfl,rfl,rfl,rfl,(bB (by simp only[a6E,h5,h12,bS])),trivial⟩ rfl rfl
    ·refine gC 0 (fun h9 p9=>?_) fun h9 p9=>?_
     ·refine go 2 ?_;exact a0h ⟨rfl,rfl,rfl,rfl,rfl,(bB (by simp only[b0x,h9,bS])),trivial⟩ rfl rfl
     ·refine gS 4 18 (fun h18 p18=>?_) fun h18 p18=>?_
      ·refine go 6 ?_;exact a0h ⟨rfl,rfl,rfl,rfl,rfl,(bB (by simp only[b0x,h9,h18,bS])),trivial⟩ rfl rfl
      ·refine go 6 ?_;exact a0h ⟨rfl,rfl,rfl,rfl,rfl,(bB (by simp only[b0x,h9,h18,bS])),trivial⟩ rfl rfl
   ·refine gC 0 (fun h9 p9=>?_) fun h9 p9=>?_
    ·refine go 2 ?_;refine o_v rfl (a5o he rfl rfl i oM oM) ?_;refine go 1 ?_;refine a5A he rfl rfl rfl (by rw[a3o,Nat.blt_eq];omega) ?_;refine go 4 ?_;exact a0h sb (congrArg (fun r=>[Res.blk g1 _ r,_]) (a7h i hlt _ (c7L h9))) rfl
    ·refine go 1 ?_;refine b9M (L':=[(1,.pointer (some ⟨g1,0,none⟩)),(0,.pointer (some ⟨g0,0,none⟩)),(4,.int .i64 (i:Int)),(2,.int .i64 (i:Int)),(3,.int .u8 (i.toUInt8.toNat:Int)),(24,.bool (a3i i.toUInt8))]) ?_ ?_
     ·refine gS 4 27 (fun h27 p27=>?_) fun h27 p27=>?_
      ·refine go 6 ?_;exact a0h ⟨rfl,rfl,rfl,rfl,rfl,(bB (by simp only[a3i,h9,h27,bS])),trivial⟩ rfl rfl
      ·refine go 6 ?_;exact a0h ⟨rfl,rfl,rfl,rfl,rfl,(bB (by simp only[a3i,h9,h27,bS])),trivial⟩ rfl rfl
     ·refine gC 0 (fun h24 p24=>?_) fun h24 p24=>?_
      ·refine go 2 ?_;refine o_v rfl (a5o he rfl rfl i oM oM) ?_;refine go 1 ?_;refine a5A he rfl rfl rfl (by rw[a3o,Nat.blt_eq];omega) ?_;refine go 4 ?_;exact a0h sb (congrArg (fun r=>[Res.blk g1 _ r,_]) (a7h i hlt _ (c7M h9 h24))) rfl
      ·refine go 4 ?_;refine cV (indexByte I _ i.toUInt8) ?_;refine gC 4 (fun h33 p33=>?_) fun h33 p33=>?_
       ·refine go 2 ?_;refine o_v rfl (a5o he rfl rfl i oM oM) ?_;refine go 1 ?_;refine a5A he rfl rfl rfl (by rw[a3o,Nat.blt_eq];omega) ?_;refine go 4 ?_;exact a0h sb (congrArg (fun r=>[Res.blk g1 _ r,_]) (a7h i hlt _ (c7K h9 h24 h33))) rfl
       ·refine go 4 ?_;refine cV (indexByte I _ i.toUInt8) ?_;refine gC 4 (fun h39 p39=>?_) fun h39 p39=>?_
        ·refine go 2 ?_;refine o_v rfl (a5o he rfl rfl i oM oM) ?_;refine go 1 ?_;refine a5A he rfl rfl rfl (by rw[a3o,Nat.blt_eq];omega) ?_;refine go 4 ?_;exact a0h sb (congrArg (fun r=>[Res.blk g1 _ r,_]) (a7h i hlt _ (c7N h9 h24 h33 h39))) rfl
        ·refine go 4 ?_;exact a0h sb (congrArg (fun r=>[Res.blk g1 _ r,_]) (b4z i hlt (c7J h9 h24 h33 h39)).symm) rfl
  ·refine go 5 ?_;exact a0s (i+1) oM oM rfl sb rfl
 ·refine go 7 ?_;refine o_v rfl (a5o he rfl rfl 35 rfl oM) ?_;refine go 1 ?_;refine a5A he rfl rfl rfl (by simp only[List.length_set,a3o];rfl) ?_;refine o_v rfl (a5o he rfl rfl 95 rfl oM) ?_;refine go 1 ?_;refine a5A he rfl rfl rfl (by simp only[List.length_set,a3o];rfl) ?_;refine o_v rfl (a5o he rfl rfl 34 rfl oM) ?_;refine go 1 ?_;refine a5A he rfl rfl rfl (by simp only[List.length_set,a3o];rfl) ?_;refine go 6 ?_;refine a0b ?_;refine go 5 ?_;have e:i=256:=oM;subst e;exact q_v rfl
theorem a7X (I:IMap) (s:ByteArray) (hs:s.size≤9223372036854775807) :
    FnV prog 107 #[.string s] I (.bool (a2j s)):=by
 refine enter func107 call107 rfl ntmps107 rfl fun w0=>?_;refine go 8 ?_;refine cV (c7I _) ?_;refine go 2 fun g3=>?_
 refine go 13 ?_
 refine a0w (α:=Nat) 0 (fun i=>I)
  (fun i=>[(0,.string s),(3,.pointer (some ⟨g3,0,none⟩)),(8,.int .i64 (s.size:Int)),(9,.int .i64 (i:Int))])
  (fun i=>[.blk g3 212 clsTab])
  (fun i=>i≤s.size∧a7Q s i=true)
  (fun i=>s.size-i) ⟨Nat.zero_le _,rfl⟩ rfl sb rfl ?_
 intro i ⟨hi,hn⟩;refine gC 6 (fun h10 p10=>?_) fun h10 p10=>?_
 ·refine go 14 ?_;refine o_v rfl (c3g he rfl rfl i oM oM) ?_;refine o_v rfl (a5o he rfl rfl (s[i]!).toNat rfl (s[i]!).toNat_lt) ?_;refine o_v rfl (b0v m0 he rfl (by rw[show 0+(s[i]!).toNat * 1=(s[i]!).toNat from by omega];exact b9U _)) ?_;refine gS 8 19 (fun h19 p19=>?_) fun h19 p19=>?_
  ·refine gS 3 22 (fun h22 p22=>?_) fun h22 p22=>?_
   ·refine go 23 ?_;exact q_v (by simp only[a2j,b2S (show i<s.size from oM) (show a3e s i=false by simp only[a3e,←(a4q _).1,←(a4q _).2.1,←(a4q _).2.2];simp_all),bS])
   ·refine gS 3 25 (fun h25 p25=>?_) fun h25 p25=>?_
    ·refine gC 7 (fun h30 p30=>?_) fun h30 p30=>?_
     ·refine go 12 ?_;exact q_v (by simp only[a2j,b2S (show i<s.size from oM) (show a3e s i=false by simp only[a3e,←(a4q _).1,←(a4q _).2.1,←(a4q _).2.2];simp_all),bS])
     ·refine go 8 ?_;exact a0s (i+1) ⟨oM,a7R hn (by simp only[a3e,←(a4q _).1,←(a4q _).2.1,←(a4q _).2.2];simp_all)⟩ oM rfl sb rfl
    ·refine go 16 ?_;exact a0s (i+1) ⟨oM,a7R hn (by simp only[a3e,←(a4q _).1,←(a4q _).2.1,←(a4q _).2.2];simp_all)⟩ oM rfl sb rfl
  ·refine go 22 ?_;exact a0s (i+1) ⟨oM,a7R hn (by simp only[a3e,←(a4q _).1,←(a4q _).2.1,←(a4q _).2.2];simp_all)⟩ oM rfl sb rfl
 ·refine gS 10 34 (fun h34 p34=>?_) fun h34 p34=>?_
  ·refine go 9 ?_;have e:i=s.size:=oM;subst e;exact q_v (by simp only[a2j,hn,h10,h34,bS])
  ·refine go 9 ?_;have e:i=s.size:=oM;subst e;exact q_v (by simp only[a2j,hn,h10,h34,bS])
end Go.Proofs.YtkndpfncklhhlaaGreat
namespace Go.Proofs.YtkndpfncklhhlaaGreat
open Go Go.Sx Tryz
set_option linter.all false
set_option maxRecDepth 20000
set_option maxHeartbeats 4000000
instance:Has (a2A prog 9) ([.string ⟨#[]⟩],1,16):=hk
instance:Has (a9w prog 22) (76,3):=hk
instance:Has (a9w prog 58) (54,14):=hk
instance:Has (a9w prog 74) (130,3):=hk
instance:Has (a9w prog 77) (72,14):=hk
instance:Has (a3C prog 130 0) (0,false,1):=hk
instance:Has (a3C prog 130 1) (1,false,1):=hk
instance:Has (a3C prog 130 2) (2,false,1):=hk
instance:Has (a3C prog 24 0) (0,false,1):=hk
instance:Has (a3C prog 76 0) (0,false,1):=hk
instance:Has (a3C prog 76 1) (1,false,1):=hk
instance:Has (a3C prog 76 2) (2,false,1):=hk
theorem T.mixed:prog.follows .mixedOrders=true:=by kernel_rfl
instance:Has (plK prog 130) [(0,1),(1,1),(2,1)]:=hk
instance:Has (plK prog 24) [(0,1)]:=hk
instance:Has (plK prog 76) [(0,1),(1,1),(2,1)]:=hk
instance:Has (tyK prog 117) (false,1):=hk
instance:Has (tyK prog 130) (true,3):=hk
instance:Has (tyK prog 22) (false,1):=hk
instance:Has (tyK prog 224) (false,1):=hk
instance:Has (tyK prog 24) (true,1):=hk
instance:Has (tyK prog 263) (false,1):=hk
instance:Has (tyK prog 3) (false,1):=hk
instance:Has (tyK prog 4) (false,1):=hk
instance:Has (tyK prog 54) (true,14):=hk
instance:Has (tyK prog 72) (true,14):=hk
instance:Has (tyK prog 74) (false,1):=hk
instance:Has (tyK prog 76) (true,3):=hk
instance:Has (prog.underlying 162) (.map 9 4):=hk
instance T.und_22:Has (prog.underlying 22) (.slice 76):=hk
instance:Has (prog.underlying 58) (.slice 54):=hk
instance T.und_74:Has (prog.underlying 74) (.slice 130):=hk
instance T.und_77:Has (prog.underlying 77) (.slice 72):=hk
instance:Has (a2r prog 130) [.string ⟨#[]⟩,.slice none 0 0,.int .i64 0]:=hk
instance:Has (a2r prog 24) [.slice none 0 0]:=hk
instance:Has (a2r prog 76) [.string ⟨#[]⟩,.bool false,.slice none 0 0]:=hk
instance:Has (a2r prog 9) [.string ⟨#[]⟩]:=hk
instance:Has (zvK prog 4) (.bool false):=hk
theorem b3l (I:IMap) (x:Int) :
    FnV prog 164 #[.int .i64 x] I (.bool false):=by
 refine enter func164 call164 rfl ntmps164 rfl fun w0=>?_;refine go 15 ?_;exact q_v (by simp)
theorem a8q (I:IMap) (x:ByteArray) :
    FnV prog 206 #[.string x] I (.bool false):=by
 refine enter func206 call206 rfl ntmps206 rfl fun w0=>?_;refine go 15 ?_;exact q_v (by simp)
theorem b4D (I:IMap) (x y:Int) :
    FnV prog 113 #[.int .i64 x,.int .i64 y] I (.int .i64 (b4A x y)):=by
 refine enter func113 call113 rfl ntmps113 rfl fun w0=>?_;refine go 9 ?_;refine cV (b3l I x) ?_;refine go 7 ?_;refine cV (b3l I y) ?_;refine gC 29 (fun h16 p16=>?_) fun h16 p16=>?_
 ·refine go 8 ?_;exact q_v (by unfold b4A;simp only[p16,if_true])
 ·refine gC 10 (fun h19 p19=>?_) fun h19 p19=>?_
  ·refine go 8 ?_;exact q_v (by unfold b4A;simp only[p16,p19,if_true,if_false])
  ·refine go 9 ?_;exact q_v (by unfold b4A;simp only[p16,p19,if_false])
theorem a6F (I:IMap) (x y:ByteArray) :
    FnV prog 170 #[.string x,.string y] I (.int .i64 (b9s x y)):=by
 refine enter func170 call170 rfl ntmps170 rfl fun w0=>?_;refine go 9 ?_;refine cV (a8q I x) ?_;refine go 7 ?_;refine cV (a8q I y) ?_;refine gC 29 (fun h16 p16=>?_) fun h16 p16=>?_
 ·refine go 8 ?_;exact q_v (by unfold b9s;rw[if_pos h16])
 ·refine gC 10 (fun h19 p19=>?_) fun h19 p19=>?_
  ·refine go 8 ?_;exact q_v (by unfold b9s;rw[if_neg (by rw[h16];decide),if_pos h19])
  ·refine go 9 ?_;exact q_v (by unfold b9s;rw[if_neg (by rw[h16];decide),if_neg (by rw[h19];decide)])
theorem b0B (I:IMap) (v:Value) (l:List Kind) (hv:RdS I v l) (f:FuncId) (cs:List Value) (p:Kind→Bool) (hp:∀x∈l,∀vs,Enc.rd I vs x→FnV prog f ([Value.agg vs.toArray]++cs).toArray I (.bool (p x))) :
    FnV prog 209 #[v,.func (.func f) #[] cs.toArray] I (.int .i64 (a5w p l)):=by
 obtain⟨A,c,rfl,hA,hc,hm⟩:=hv;refine enter func209 call209 rfl ntmps209 rfl fun w0=>?_;refine go 14 ?_
 refine a0w (α:=Nat) 0 (fun i=>I)
  (fun i=>[(0,.slice A l.length c),(1,.func (.func f) #[] cs.toArray),(7,.int .i64 (l.length:Int)),(8,.int .i64 (i:Int))])
  (fun i=>[])
  (fun i=>i≤l.length∧∀j x,j<i→l[j]? = some x→p x=false)
  (fun i=>l.length-i) ⟨Nat.zero_le _,fun j x hj=>absurd hj (Nat.not_lt_zero j)⟩ rfl sb rfl ?_
 intro i ⟨hi,hn⟩;refine gC 6 (fun h9 p9=>?_) fun h9 p9=>?_
 ·have hlt:i<l.length:=oM;refine go 15 ?_;obtain⟨b14,o14,w14,e14,c14,r14⟩:=RdA.at_ hA (i:=i) hlt;refine go 1 ?_;refine o_v rfl (a2P he rfl c14 (Enc.len r14)) ?_;refine go 1 ?_;refine cV (hp _ (List.getElem_mem hlt) _ r14) ?_;refine gC 2 (fun h16 p16=>?_) fun h16 p16=>?_
  ·refine go 13 ?_;exact q_v (congrArg (Value.int .i64) (a3D hlt p16 hn).symm)
  ·refine go 8 ?_;exact a0s (i+1) ⟨oM,a3c hn hlt p16⟩ oM rfl sb rfl
 ·refine go 12 ?_;exact q_v (congrArg (Value.int .i64) (a4u (fun j x hj=>hn j x oM)).symm)
theorem b0D (I:IMap) (v:Value) (l:List Slot) (hv:RdS I v l) (f:FuncId) (cs:List Value) (p:Slot→Bool) (hp:∀x∈l,∀vs,Enc.rd I vs x→FnV prog f ([Value.agg vs.toArray]++cs).toArray I (.bool (p x))) :
    FnV prog 243 #[v,.func (.func f) #[] cs.toArray] I (.int .i64 (a5w p l)):=by
 obtain⟨A,c,rfl,hA,hc,hm⟩:=hv;refine enter func243 call243 rfl ntmps243 rfl fun w0=>?_;refine go 14 ?_
 refine a0w (α:=Nat) 0 (fun i=>I)
  (fun i=>[(0,.slice A l.length c),(1,.func (.func f) #[] cs.toArray),(7,.int .i64 (l.length:Int)),(8,.int .i64 (i:Int))])
  (fun i=>[])
  (fun i=>i≤l.length∧∀j x,j<i→l[j]? = some x→p x=false)
  (fun i=>l.length-i) ⟨Nat.zero_le _,fun j x hj=>absurd hj (Nat.not_lt_zero j)⟩ rfl sb rfl ?_
 intro i ⟨hi,hn⟩;refine gC 6 (fun h9 p9=>?_) fun h9 p9=>?_
 ·have hlt:i<l.length:=oM;refine go 15 ?_;obtain⟨b14,o14,w14,e14,c14,r14⟩:=RdA.at_ hA (i:=i) hlt;refine go 1 ?_;refine o_v rfl (a2P he rfl c14 (Enc.len r14)) ?_;refine go 1 ?_;refine cV (hp _ (List.getElem_mem hlt) _ r14) ?_;refine gC 2 (fun h16 p16=>?_) fun h16 p16=>?_
  ·refine go 13 ?_;exact q_v (congrArg (Value.int .i64) (a3D hlt p16 hn).symm)
  ·refine go 8 ?_;exact a0s (i+1) ⟨oM,a3c hn hlt p16⟩ oM rfl sb rfl
 ·refine go 12 ?_;exact q_v (congrArg (Value.int .i64) (a4u (fun j x hj=>hn j x oM)).symm)
theorem b0C (I:IMap) (v:Value) (l:List Part) (hv:RdS I v l) (f:FuncId) (cs:List Value) (p:Part→Bool) (hp:∀x∈l,∀vs,Enc.rd I vs x→FnV prog f ([Value.agg vs.toArray]++cs).toArray I (.bool (p x))) :
    FnV prog 174 #[v,.func (.func f) #[] cs.toArray] I (.int .i64 (a5w p l)):=by
 obtain⟨A,c,rfl,hA,hc,hm⟩:=hv;refine enter func174 call174 rfl ntmps174 rfl fun w0=>?_;refine go 14 ?_
 refine a0w (α:=Nat) 0 (fun i=>I)
  (fun i=>[(0,.slice A l.length c),(1,.func (.func f) #[] cs.toArray),(7,.int .i64 (l.length:Int)),(8,.int .i64 (i:Int))])
  (fun i=>[])
  (fun i=>i≤l.length∧∀j x,j<i→l[j]? = some x→p x=false)
  (fun i=>l.length-i) ⟨Nat.zero_le _,fun j x hj=>absurd hj (Nat.not_lt_zero j)⟩ rfl sb rfl ?_
 intro i ⟨hi,hn⟩;refine gC 6 (fun h9 p9=>?_) fun h9 p9=>?_
 ·have hlt:i<l.length:=oM;refine go 15 ?_;obtain⟨b14,o14,w14,e14,c14,r14⟩:=RdA.at_ hA (i:=i) hlt;refine go 1 ?_;refine o_v rfl (a2P he rfl c14 (Enc.len r14)) ?_;refine go 1 ?_;refine cV (hp _ (List.getElem_mem hlt) _ r14) ?_;refine gC 2 (fun h16 p16=>?_) fun h16 p16=>?_
  ·refine go 13 ?_;exact q_v (congrArg (Value.int .i64) (a3D hlt p16 hn).symm)
  ·refine go 8 ?_;exact a0s (i+1) ⟨oM,a3c hn hlt p16⟩ oM rfl sb rfl
 ·refine go 12 ?_;exact q_v (congrArg (Value.int .i64) (a4u (fun j x hj=>hn j x oM)).symm)
theorem a7T (I:IMap) (v:Value) (l:List Part) (hv:RdS I v l) (f:FuncId) (cs:List Value) (p:Part→Bool) (hp:∀x∈l,∀vs,Enc.rd I vs x→FnV prog f ([Value.agg vs.toArray]++cs).toArray I (.bool (p x))) :
    FnV prog 123 #[v,.func (.func f) #[] cs.toArray] I (.bool (l.any p)):=by
 refine enter func123 call123 rfl ntmps123 rfl fun w0=>?_;refine go 10 ?_;refine cV (b0C I v l hv f cs p hp) ?_;refine go 6 ?_;exact q_v (congrArg Value.bool (a7r p l))
theorem b1W (I:IMap) (v:Value) (l:List Evt) (hv:RdS I v l) (f:FuncId) (cs:List Value) (p:Evt→Bool) (hp:∀x∈l,∀vs,Enc.rd I vs x→FnV prog f ([Value.agg vs.toArray]++cs).toArray I (.bool (p x))) :
    FnV prog 110 #[v,.func (.func f) #[] cs.toArray] I (.int .i64 (a5w p l)):=by
 obtain⟨A,c,rfl,hA,hc,hm⟩:=hv;refine enter func110 call110 rfl ntmps110 rfl fun w0=>?_;refine go 14 ?_
 refine a0w (α:=Nat) 0 (fun i=>I)
  (fun i=>[(0,.slice A l.length c),(1,.func (.func f) #[] cs.toArray),(7,.int .i64 (l.length:Int)),(8,.int .i64 (i:Int))])
  (fun i=>[])
  (fun i=>i≤l.length∧∀j x,j<i→l[j]? = some x→p x=false)
  (fun i=>l.length-i) ⟨Nat.zero_le _,fun j x hj=>absurd hj (Nat.not_lt_zero j)⟩ rfl sb rfl ?_
 intro i ⟨hi,hn⟩;refine gC 6 (fun h9 p9=>?_) fun h9 p9=>?_
 ·have hlt:i<l.length:=oM;refine go 15 ?_;obtain⟨b14,o14,w14,e14,c14,r14⟩:=RdA.at_ hA (i:=i) hlt;refine go 1 ?_;refine o_v rfl (a2P he rfl c14 (Enc.len r14)) ?_;refine go 1 ?_;refine cV (hp _ (List.getElem_mem hlt) _ r14) ?_;refine gC 2 (fun h16 p16=>?_) fun h16 p16=>?_
  ·refine go 13 ?_;exact q_v (congrArg (Value.int .i64) (a3D hlt p16 hn).symm)
  ·refine go 8 ?_;exact a0s (i+1) ⟨oM,a3c hn hlt p16⟩ oM rfl sb rfl
 ·refine go 12 ?_;exact q_v (congrArg (Value.int .i64) (a4u (fun j x hj=>hn j x oM)).symm)
theorem a8A (I:IMap) (v:Value) (l:List ByteArray) (hv:RdS I v l) (f:FuncId) (cs:List Value) (p:ByteArray→Bool) (hp:∀x∈l,∀vs,Enc.rd I vs x→FnV prog f ([Value.string x]++cs).toArray I (.bool (p x))) :
    FnV prog 184 #[v,.func (.func f) #[] cs.toArray] I (.int .i64 (a5w p l)):=by
 obtain⟨A,c,rfl,hA,hc,hm⟩:=hv;refine enter func184 call184 rfl ntmps184 rfl fun w0=>?_;refine go 14 ?_
 refine a0w (α:=Nat) 0 (fun i=>I)
  (fun i=>[(0,.slice A l.length c),(1,.func (.func f) #[] cs.toArray),(7,.int .i64 (l.length:Int)),(8,.int .i64 (i:Int))])
  (fun i=>[])
  (fun i=>i≤l.length∧∀j x,j<i→l[j]? = some x→p x=false)
  (fun i=>l.length-i) ⟨Nat.zero_le _,fun j x hj=>absurd hj (Nat.not_lt_zero j)⟩ rfl sb rfl ?_
 intro i ⟨hi,hn⟩;refine gC 6 (fun h9 p9=>?_) fun h9 p9=>?_
 ·have hlt:i<l.length:=oM;refine go 15 ?_;obtain⟨b14,o14,w14,e14,c14,r14⟩:=RdA.at_ hA (i:=i) hlt;obtain rfl:=r14;refine go 3 ?_;refine cV (hp _ (List.getElem_mem hlt) _ rfl) ?_;refine gC 2 (fun h16 p16=>?_) fun h16 p16=>?_
  ·refine go 13 ?_;exact q_v (congrArg (Value.int .i64) (a3D hlt p16 hn).symm)
  ·refine go 8 ?_;exact a0s (i+1) ⟨oM,a3c hn hlt p16⟩ oM rfl sb rfl
 ·refine go 12 ?_;exact q_v (congrArg (Value.int .i64) (a4u (fun j x hj=>hn j x oM)).symm)
theorem a6P (I:IMap) (v:Value) (l:List ByteArray) (hv:RdS I v l) (f:FuncId) (cs:List Value) (p:ByteArray→Bool) (hp:∀x∈l,∀vs,Enc.rd I vs x→FnV prog f ([Value.string x]++cs).toArray I (.bool (p x))) :
    FnV prog 135 #[v,.func (.func f) #[] cs.toArray] I (.bool (l.any p)):=by
 refine enter func135 call135 rfl ntmps135 rfl fun w0=>?_;refine go 10 ?_;refine cV (a8A I v l hv f cs p hp) ?_;refine go 6 ?_;exact q_v (congrArg Value.bool (a7r p l))
theorem b3g (I:IMap) (v:Value) (l:List ByteArray) (hv:RdS I v l) (s:ByteArray) :
    FnV prog 131 #[v,.string s] I (.int .i64 (a5w (fun x=>decide (s=x)) l)):=by
 obtain⟨A,c,rfl,hA,hc,hm⟩:=hv;refine enter func131 call131 rfl ntmps131 rfl fun w0=>?_;refine go 14 ?_
 refine a0w (α:=Nat) 0 (fun i=>I)
  (fun i=>[(0,.slice A l.length c),(1,.string s),(7,.int .i64 (l.length:Int)),(8,.int .i64 (i:Int))])
  (fun i=>[])
  (fun i=>i≤l.length∧∀j x,j<i→l[j]? = some x→(fun x=>decide (s=x)) x=false)
  (fun i=>l.length-i) ⟨Nat.zero_le _,fun j x hj=>absurd hj (Nat.not_lt_zero j)⟩ rfl sb rfl ?_
 intro i ⟨hi,hn⟩;refine gC 6 (fun h9 p9=>?_) fun h9 p9=>?_
 ·have hlt:i<l.length:=oM;refine go 15 ?_;obtain⟨b14,o14,w14,e14,c14,r14⟩:=RdA.at_ hA (i:=i) hlt;obtain rfl:=r14;refine gC 5 (fun h16 p16=>?_) fun h16 p16=>?_
  ·refine go 13 ?_;exact q_v (congrArg (Value.int .i64) (a3D (p:=fun x=>decide (s=x)) hlt h16 hn).symm)
  ·refine go 8 ?_;exact a0s (i+1) ⟨oM,a3c (p:=fun x=>decide (s=x)) hn hlt h16⟩ oM rfl sb rfl
 ·refine go 12 ?_;exact q_v (congrArg (Value.int .i64) (a4u (p:=fun x=>decide (s=x)) (fun j x hj=>hn j x oM)).symm)
theorem a4r (I:IMap) (v:Value) (l:List ByteArray) (hv:RdS I v l) (s:ByteArray) :
    FnV prog 83 #[v,.string s] I (.bool (decide (s∈l))):=by
 refine enter func83 call83 rfl ntmps83 rfl fun w0=>?_;refine go 10 ?_;refine cV (b3g I v l hv s) ?_;refine go 6 ?_;exact q_v (congrArg Value.bool ((a7r _ l).trans (c7r s l)))
theorem c4F (I:IMap) (k:Kind) (vs:List Value) (h:Enc.rd I vs k) :
    FnV prog 173 #[.agg vs.toArray] I (.string k.name):=by
 obtain⟨ss,rfl,hs⟩:=h;refine enter func173 call173 rfl ntmps173 rfl fun w0=>?_;refine go 4 fun g1=>?_
 refine go 12 ?_;exact q_v rfl
theorem c5L (I:IMap) (k:Slot) (vs:List Value) (h:Enc.rd I vs k) :
    FnV prog 212 #[.agg vs.toArray] I (.string k.name):=by
 obtain⟨ss,rfl,hs⟩:=h;refine enter func212 call212 rfl ntmps212 rfl fun w0=>?_;refine go 4 fun g1=>?_
 refine go 12 ?_;exact q_v rfl
theorem b4X (I:IMap) (k:Kind) (vs:List Value) (h:Enc.rd I vs k) (fn:FuncId) (nm:Kind→ByteArray) (s:ByteArray) (hn:FnV prog fn #[.agg vs.toArray] I (.string (nm k))) (g1 g2:Nat) (c1:ICells I g1 0 [.func (.func fn) #[] #[]]) (c2:ICells I g2 0 [.string s]) :
    FnV prog 210 #[.agg vs.toArray,.pointer (some ⟨g1,0,none⟩),.pointer (some ⟨g2,0,none⟩)] I (.bool (decide (nm k=s))):=by
 have hl:=Enc.len h;refine enter func210 call210 rfl ntmps210 rfl fun w0=>?_;refine go 4 fun g3=>?_
 refine go 5 ?_;refine dG 0 1 ?_;refine a0F 1 rfl rfl (by kernel_rfl) rfl (.refl _) rfl (a4n m0 he rfl hl) ?_;refine dG 3 1 ?_;refine dH 2 0 ?_;refine cV (hn) ?_;refine dG 4 2 ?_;refine go 4 ?_;exact q_v rfl
theorem b8p (I:IMap) (v:Value) (l:List Kind) (hv:RdS I v l) (fn:FuncId) (nm:Kind→ByteArray) (s:ByteArray) (hn:∀J,ILe I J→∀x∈l,∀vs,Enc.rd J vs x→FnV prog fn #[.agg vs.toArray] J (.string (nm x))) :
    FnV prog 172 #[v,.func (.func fn) #[] #[],.string s] I (.int .i64 (a5w (fun x=>decide (nm x=s)) l)):=by
 refine enter func172 call172 rfl ntmps172 rfl fun w0=>?_;refine go 4 fun g4=>?_
 refine go 2 fun g5=>?_
 refine go 6 ?_;refine a0b ?_;refine a1Z fun Ig4 jg4 cg4=>?_;refine a1Z fun Ig5 jg5 cg5=>?_;refine go 2 ?_;refine cV (b0B _ v l (hv.le (jg4.trans jg5)) _ [.pointer (some ⟨g4,0,none⟩),.pointer (some ⟨g5,0,none⟩)] (fun x=>decide (nm x=s)) (fun x hx vs hr=>b4X _ x vs hr fn nm s (hn _ (jg4.trans jg5) x hx vs hr) g4 g5 (cg4.le jg5) cg5)) ?_;refine go 5 ?_;exact b5v rfl
theorem b4Y (I:IMap) (k:Slot) (vs:List Value) (h:Enc.rd I vs k) (fn:FuncId) (nm:Slot→ByteArray) (s:ByteArray) (hn:FnV prog fn #[.agg vs.toArray] I (.string (nm k))) (g1 g2:Nat) (c1:ICells I g1 0 [.func (.func fn) #[] #[]]) (c2:ICells I g2 0 [.string s]) :
    FnV prog 244 #[.agg vs.toArray,.pointer (some ⟨g1,0,none⟩),.pointer (some ⟨g2,0,none⟩)] I (.bool (decide (nm k=s))):=by
 have hl:=Enc.len h;refine enter func244 call244 rfl ntmps244 rfl fun w0=>?_;refine go 4 fun g3=>?_
 refine go 5 ?_;refine dG 0 1 ?_;refine a0F 1 rfl rfl (by kernel_rfl) rfl (.refl _) rfl (a4n m0 he rfl hl) ?_;refine dG 3 1 ?_;refine dH 2 0 ?_;refine cV (hn) ?_;refine dG 4 2 ?_;refine go 4 ?_;exact q_v rfl
theorem b8q (I:IMap) (v:Value) (l:List Slot) (hv:RdS I v l) (fn:FuncId) (nm:Slot→ByteArray) (s:ByteArray) (hn:∀J,ILe I J→∀x∈l,∀vs,Enc.rd J vs x→FnV prog fn #[.agg vs.toArray] J (.string (nm x))) :
    FnV prog 211 #[v,.func (.func fn) #[] #[],.string s] I (.int .i64 (a5w (fun x=>decide (nm x=s)) l)):=by
 refine enter func211 call211 rfl ntmps211 rfl fun w0=>?_;refine go 4 fun g4=>?_
 refine go 2 fun g5=>?_
 refine go 6 ?_;refine a0b ?_;refine a1Z fun Ig4 jg4 cg4=>?_;refine a1Z fun Ig5 jg5 cg5=>?_;refine go 2 ?_;refine cV (b0D _ v l (hv.le (jg4.trans jg5)) _ [.pointer (some ⟨g4,0,none⟩),.pointer (some ⟨g5,0,none⟩)] (fun x=>decide (nm x=s)) (fun x hx vs hr=>b4Y _ x vs hr fn nm s (hn _ (jg4.trans jg5) x hx vs hr) g4 g5 (cg4.le jg5) cg5)) ?_;refine go 5 ?_;exact b5v rfl
theorem b1L (I:IMap) (v:Value) (l:List Kind) (hv:RdS I v l) (s:ByteArray) :
    FnE prog 121 #[.agg #[v],.string s] I (KindIs I (a2D l s)):=by
 refine enter func121 call121 rfl ntmps121 rfl fun w0=>?_;refine go 4 fun g2=>?_
 refine go 2 fun g4=>?_
 refine go 9 ?_;refine cV (b8p I _ l hv _ Kind.name s (fun J hJ x _ vs hr=>c4F J x vs hr)) ?_;refine gC 10 (fun h12 p12=>?_) fun h12 p12=>?_
 ·have hN:=((a2h (fun x=>decide (Kind.name x=s)) l).resolve_right (by rintro⟨i,hi,e,_⟩;omega)).2;refine go 11 ?_;exact q_e (KindIs.none hN)
 ·obtain⟨i,hi,ei,hF⟩:=(a2h (fun x=>decide (Kind.name x=s)) l).resolve_left (fun h=>oM);refine go 7 ?_;obtain⟨A,c0,rfl,hA,hc,hm⟩:=hv;obtain⟨b17,o17,w17,e17,c17,r17⟩:=RdA.at_ hA (i:=i) hi;obtain⟨q17,rfl,B17,d17,rfl,hB17,hd17,hm17⟩:=r17;refine o_v rfl (a0i he rfl rfl e17 (i) ei hi) ?_;refine go 8 ?_;exact q_e (KindIs.of hF ⟨_,rfl,B17,d17,rfl,hB17,hd17,hm17⟩)
theorem c7H (I:IMap) (v:Value) (l:List Kind) (hv:RdS I v l) (k s:ByteArray) :
    FnE prog 175 #[.agg #[v],.string k,.string s] I (SlotIs I (b5I l k s)):=by
 refine enter func175 call175 rfl ntmps175 rfl fun w0=>?_;refine go 4 fun g3=>?_
 refine go 2 fun g6=>?_
 refine go 8 ?_;refine a2p (b1L I _ l hv k) rfl rfl fun v14 q14=>?_;obtain⟨vs,rfl,ss,rfl,hsl⟩:=q14;refine go 5 fun g8=>?_
 refine go 1 ?_;refine a1A _ he rfl rfl rfl rfl rfl (by simp[Kind.cells,hsl.one];exact⟨rfl,rfl⟩) ?_;refine go 9 ?_;refine cV (b8q I _ _ hsl _ Slot.name s (fun J hJ x _ vs hr=>c5L J x vs hr)) ?_;refine gC 10 (fun h22 p22=>?_) fun h22 p22=>?_
 ·have hN:=((a2h (fun x=>decide (Slot.name x=s)) ((a2D l k).getD a4Y).slots).resolve_right (by rintro⟨i,hi,e,_⟩;omega)).2;refine go 4 ?_;refine a0b ?_;refine go 7 ?_;exact q_e (SlotIs.none hN)
 ·obtain⟨i,hi,ei,hF⟩:=(a2h (fun x=>decide (Slot.name x=s)) ((a2D l k).getD a4Y).slots).resolve_left (fun h=>oM);obtain⟨A,c0,rfl,hA,hc,hm⟩:=hsl;refine go 7 ?_;obtain⟨b27,o27,w27,e27,c27,r27⟩:=RdA.at_ hA (i:=i) hi;obtain⟨q27,rfl,B27,d27,rfl,hB27,hd27,hm27⟩:=r27;refine o_v rfl (a0i he rfl rfl e27 (i) ei hi) ?_;refine go 2 ?_;refine a0b ?_;refine go 6 ?_;exact q_e (SlotIs.of hF ⟨_,rfl,B27,d27,rfl,hB27,hd27,hm27⟩)
theorem b5Z (I:IMap) (v:Value) (l:List Kind) (hv:RdS I v l) (k s p:ByteArray) :
    FnV prog 124 #[.agg #[v],.string k,.string s,.string p] I (.bool (a4Q l k s p)):=by
 refine enter func124 call124 rfl ntmps124 rfl fun w0=>?_;refine go 4 fun g4=>?_
 refine go 9 ?_;refine a2p (c7H I _ l hv k s) rfl rfl fun v15 q15=>?_;obtain⟨vs,rfl,ss,rfl,hsl⟩:=q15;refine go 5 fun g9=>?_
 refine go 1 ?_;refine a1A _ he rfl rfl rfl rfl rfl (by simp[Slot.cells,hsl.one];exact⟨rfl,rfl⟩) ?_;refine gS 7 19 (fun h19 p19=>?_) fun h19 p19=>?_
 ·refine go 4 ?_;refine a0z rfl rfl h19 (a0x (a4r I _ _ hsl p) rfl rfl ?_);refine go 6 ?_;exact q_v (congrArg Value.bool (by revert h19;unfold a4Q;cases b5I l k s<;>simp))
 ·refine go 10 ?_;exact q_v (congrArg Value.bool (by revert h19;unfold a4Q;cases b5I l k s<;>simp))
theorem a8H (I:IMap) (v:Value) (l:List Kind) (hv:RdS I v l) (hs:SmC l) :
    FnV prog 73 #[.agg #[v]] I (.bool (a1a l)):=by
 obtain⟨A,c0,rfl,hA,hc,hm⟩:=hv;refine enter func73 call73 rfl ntmps73 rfl fun w0=>?_;refine go 4 fun g1=>?_
 refine go 6 ?_;refine a7z (Value.string) he rfl fun r14=>?_;refine go 13 ?_
 refine a0w (α:=Nat) 0 (fun i=>I)
  (fun i=>[(1,.pointer (some ⟨g1,0,none⟩)),(3,.map (some r14)),(16,.slice A l.length c0),(17,.int .i64 (l.length:Int)),(18,.int .i64 (i:Int))])
  (fun i=>[.mp r14 (a2l Value.string (a2Q Kind.name (fun k=>Value.bool (!k.vehicle)) (l.take i))),.blk g1 24 [.slice A l.length c0]])
  (fun i=>i≤l.length∧a2m a3d l i=true)
  (fun i=>l.length-i) ⟨Nat.zero_le _,rfl⟩ rfl sb rfl ?_
 intro i ⟨hi,hn⟩;refine gC 6 (fun h19 p19=>?_) fun h19 p19=>?_
 ·have hlt:i<l.length:=oM;refine go 6 ?_;obtain⟨b20,o20,w20,e20,c20,r20⟩:=RdA.at_ hA (i:=i) hlt;obtain⟨q20,rfl,B20,d20,rfl,hB20,hd20,hm20⟩:=r20;refine go 4 fun g5=>?_
  refine go 10 ?_;refine o_v rfl (a8v m1 (a0O he) he he (l[i].name) rfl rfl rfl (c4G _ _ _ _)) ?_;refine go 8 ?_;refine a1h (I':=I) (L':=[(1,.pointer (some ⟨g1,0,none⟩)),(3,.map (some r14)),(16,.slice A l.length c0),(17,.int .i64 (l.length:Int)),(18,.int .i64 (i:Int)),(5,.pointer (some ⟨g5,0,none⟩)),(41,.bool ((hit Kind.name (l.take i) l[i].name || !a2j l[i].name)||decide ((12:Int)<(l[i].slots.length:Nat))))]) (H':=[.blk g5 76 (l[i].cells (.slice B20 l[i].slots.length d20)),.mp r14 (a2l Value.string (a2Q Kind.name (fun k=>Value.bool (!k.vehicle)) (l.take i))),.blk g1 24 [.slice A l.length c0]]) ?_ ?_
  ·refine gS 3 30 (fun h30 p30=>?_) fun h30 p30=>?_
   ·refine go 13 ?_;exact a0h ⟨rfl,rfl,rfl,rfl,rfl,rfl,(bB (by simp only[h19,h30,bS])),trivial⟩ rfl rfl
   ·refine go 3 ?_;refine a0z rfl rfl h30 (a0x (a7X _ _ (hs _ (List.getElem_mem hlt)).1) rfl rfl ?_);refine gS 3 36 (fun h36 p36=>?_) fun h36 p36=>?_
    ·refine go 7 ?_;exact a0h ⟨rfl,rfl,rfl,rfl,rfl,rfl,(bB (by simp only[h19,h30,h36,bS])),trivial⟩ rfl rfl
    ·refine go 7 ?_;exact a0h ⟨rfl,rfl,rfl,rfl,rfl,rfl,(bB (by simp only[h19,h30,h36,bS])),trivial⟩ rfl rfl
  ·refine gC 0 (fun h41 p41=>?_) fun h41 p41=>?_
   ·refine go 13 ?_;exact q_v (congrArg Value.bool (by simp only[a1a,a0R hlt (show a3d (l.take i) l[i]=false by simp only[a3d,h41];rfl),bS]))
   ·refine go 5 ?_;refine a7z (Value.string) he rfl fun r42=>?_;refine go 13 ?_
    refine a0w (α:=Nat) 0 (fun j=>I)
     (fun j=>[(1,.pointer (some ⟨g1,0,none⟩)),(3,.map (some r14)),(16,.slice A l.length c0),(17,.int .i64 (l.length:Int)),(18,.int .i64 (i:Int)),(5,.pointer (some ⟨g5,0,none⟩)),(8,.map (some r42)),(44,.slice B20 l[i].slots.length d20),(45,.int .i64 (l[i].slots.length:Int)),(46,.int .i64 (j:Int))])
     (fun j=>[.mp r42 (a2l Value.string (a2Q Slot.name (fun _=>Value.bool true) (l[i].slots.take j))),.blk g5 76 (l[i].cells (.slice B20 l[i].slots.length d20)),.mp r14 (a2l Value.string (a2Q Kind.name (fun k=>Value.bool (!k.vehicle)) (l.take i))),.blk g1 24 [.slice A l.length c0]])
     (fun j=>j≤l[i].slots.length∧a2m (a3M (l.take i)) l[i].slots j=true)
     (fun j=>l[i].slots.length-j) ⟨Nat.zero_le _,rfl⟩ rfl sb rfl ?_
    intro j ⟨hj,hq⟩;refine gC 6 (fun h47 p47=>?_) fun h47 p47=>?_
    ·have hltj:j<l[i].slots.length:=oM;refine go 6 ?_;obtain⟨b48,o48,w48,e48,c48,r48⟩:=RdA.at_ hB20 (i:=j) hltj;obtain⟨q48,rfl,B48,d48,rfl,hB48,hd48,hm48⟩:=r48;refine o_v rfl (a0i he rfl rfl e48 (j) oM hltj) ?_;refine go 3 fun g10=>?_
     refine go 6 ?_;refine a1h (I':=I) (L':=[(1,.pointer (some ⟨g1,0,none⟩)),(3,.map (some r14)),(16,.slice A l.length c0),(17,.int .i64 (l.length:Int)),(18,.int .i64 (i:Int)),(5,.pointer (some ⟨g5,0,none⟩)),(8,.map (some r42)),(44,.slice B20 l[i].slots.length d20),(45,.int .i64 (l[i].slots.length:Int)),(46,.int .i64 (j:Int)),(10,.pointer (some ⟨g10,0,none⟩)),(72,.bool (((hit Slot.name (l[i].slots.take j) l[i].slots[j].name || !a2j l[i].slots[j].name)||decide (l[i].slots[j].normal<1))||decide ((l[i].slots[j].kinds.length:Int)<l[i].slots[j].normal)))]) (H':=[.blk g10 130 (l[i].slots[j].cells (.slice B48 l[i].slots[j].kinds.length d48)),.mp r42 (a2l Value.string (a2Q Slot.name (fun _=>Value.bool true) (l[i].slots.take j))),.blk g5 76 (l[i].cells (.slice B20 l[i].slots.length d20)),.mp r14 (a2l Value.string (a2Q Kind.name (fun k=>Value.bool (!k.vehicle)) (l.take i))),.blk g1 24 [.slice A l.length c0]]) ?_ ?_
     ·refine go 4 ?_;refine o_v rfl (c3b m1 (a0O he) he he (l[i].slots[j].name) rfl rfl (a8P _ _ _)) ?_;refine gS 1 54 (fun h54 p54=>?_) fun h54 p54=>?_
      ·refine go 20 ?_;exact a0h ⟨rfl,rfl,rfl,rfl,rfl,rfl,rfl,rfl,rfl,rfl,rfl,(bB (by simp only[h47,h54,bS])),trivial⟩ rfl rfl
      ·refine go 3 ?_;refine a0z rfl rfl h54 (a0x (a7X _ _ ((hs _ (List.getElem_mem hlt)).2 _ (List.getElem_mem hltj)).1) rfl rfl ?_);refine gS 3 60 (fun h60 p60=>?_) fun h60 p60=>?_
       ·refine go 14 ?_;exact a0h ⟨rfl,rfl,rfl,rfl,rfl,rfl,rfl,rfl,rfl,rfl,rfl,(bB (by simp only[h47,h54,h60,bS])),trivial⟩ rfl rfl
       ·refine gS 5 65 (fun h65 p65=>?_) fun h65 p65=>?_
        ·refine go 9 ?_;exact a0h ⟨rfl,rfl,rfl,rfl,rfl,rfl,rfl,rfl,rfl,rfl,rfl,(bB (by simp only[h47,h54,h60,h65,bS])),trivial⟩ rfl rfl
        ·refine go 9 ?_;exact a0h ⟨rfl,rfl,rfl,rfl,rfl,rfl,rfl,rfl,rfl,rfl,rfl,(bB (by simp only[h47,h54,h60,h65,bS])),trivial⟩ rfl rfl
     ·refine gC 0 (fun h72 p72=>?_) fun h72 p72=>?_
      ·refine go 18 ?_;exact q_v (congrArg Value.bool (by simp only[a1a,a0R hlt (show a3d (l.take i) l[i]=false by simp only[a3d,a0R hltj (show a3M (l.take i) (l[i].slots.take j) l[i].slots[j]=false by simp only[a3M,h72];rfl),bS]),bS]))
      ·refine go 8 ?_;have h72n:hit Slot.name (l[i].slots.take j) l[i].slots[j].name=false:=by revert h72;cases hit Slot.name (l[i].slots.take j) l[i].slots[j].name<;>simp
       refine a0b ?_;refine a4l (a2Q Slot.name (fun _=>Value.bool true) (l[i].slots.take (j+1))) (a0O he) he (l[i].slots[j].name) rfl rfl rfl ((a9K Slot.name (fun _=>Value.bool true) (l[i].slots.take j) l[i].slots[j] (a7q h72n)).trans (by rw[a0e hltj])) ?_;refine go 5 ?_;refine a7z (Value.string) he rfl fun r76=>?_;refine go 12 ?_;refine a0c ?_;refine a0a ?_
       refine a0w (α:=Nat) 0 (fun m=>I)
        (fun m=>[(1,.pointer (some ⟨g1,0,none⟩)),(3,.map (some r14)),(16,.slice A l.length c0),(17,.int .i64 (l.length:Int)),(18,.int .i64 (i:Int)),(5,.pointer (some ⟨g5,0,none⟩)),(8,.map (some r42)),(44,.slice B20 l[i].slots.length d20),(45,.int .i64 (l[i].slots.length:Int)),(46,.int .i64 (j:Int)),(10,.pointer (some ⟨g10,0,none⟩)),(11,.map (some r76)),(78,.slice B48 l[i].slots[j].kinds.length d48),(79,.int .i64 (l[i].slots[j].kinds.length:Int)),(80,.int .i64 (m:Int))])
        (fun m=>[.mp r76 (a2l Value.string (a2Q _root_.id (fun _=>Value.bool true) (l[i].slots[j].kinds.take m))),.mp r42 (a2l Value.string (a2Q Slot.name (fun _=>Value.bool true) (l[i].slots.take (j+1)))),.blk g5 76 (l[i].cells (.slice B20 l[i].slots.length d20)),.mp r14 (a2l Value.string (a2Q Kind.name (fun k=>Value.bool (!k.vehicle)) (l.take i))),.blk g1 24 [.slice A l.length c0]])
        (fun m=>m≤l[i].slots[j].kinds.length∧a2m (a8r (l.take i)) l[i].slots[j].kinds m=true)
        (fun m=>l[i].slots[j].kinds.length-m) ⟨Nat.zero_le _,rfl⟩ rfl sb rfl ?_
       intro m ⟨hmm,hr⟩;refine gC 6 (fun h81 p81=>?_) fun h81 p81=>?_
       ·have hltm:m<l[i].slots[j].kinds.length:=oM;refine go 6 ?_;obtain⟨b82,o82,w82,e82,c82,r82⟩:=RdA.at_ hB48 (i:=m) hltm;obtain rfl:=r82;refine o_v rfl (a0i he rfl rfl e82 (m) oM hltm) ?_;refine go 6 ?_;refine a1h (I':=I) (L':=[(1,.pointer (some ⟨g1,0,none⟩)),(3,.map (some r14)),(16,.slice A l.length c0),(17,.int .i64 (l.length:Int)),(18,.int .i64 (i:Int)),(5,.pointer (some ⟨g5,0,none⟩)),(8,.map (some r42)),(44,.slice B20 l[i].slots.length d20),(45,.int .i64 (l[i].slots.length:Int)),(46,.int .i64 (j:Int)),(10,.pointer (some ⟨g10,0,none⟩)),(11,.map (some r76)),(78,.slice B48 l[i].slots[j].kinds.length d48),(79,.int .i64 (l[i].slots[j].kinds.length:Int)),(80,.int .i64 (m:Int)),(13,.string l[i].slots[j].kinds[m]),(92,.bool (hit _root_.id (l[i].slots[j].kinds.take m) l[i].slots[j].kinds[m] || !d0t Kind.name (fun k=>!k.vehicle) (l.take i) l[i].slots[j].kinds[m]))]) (H':=[.mp r76 (a2l Value.string (a2Q _root_.id (fun _=>Value.bool true) (l[i].slots[j].kinds.take m))),.mp r42 (a2l Value.string (a2Q Slot.name (fun _=>Value.bool true) (l[i].slots.take (j+1)))),.blk g5 76 (l[i].cells (.slice B20 l[i].slots.length d20)),.mp r14 (a2l Value.string (a2Q Kind.name (fun k=>Value.bool (!k.vehicle)) (l.take i))),.blk g1 24 [.slice A l.length c0]]) ?_ ?_
        ·refine go 3 ?_;refine o_v rfl (c3b m0 (a0O he) he he (l[i].slots[j].kinds[m]) rfl rfl (a8P _root_.id _ _)) ?_;refine gS 1 87 (fun h87 p87=>?_) fun h87 p87=>?_
         ·refine go 7 ?_;exact a0h ⟨rfl,rfl,rfl,rfl,rfl,rfl,rfl,rfl,rfl,rfl,rfl,rfl,rfl,rfl,rfl,rfl,(bB (by simp only[h81,h87,bS])),trivial⟩ rfl rfl
         ·refine go 2 ?_;refine a0P (a0z rfl rfl h87 (a0k rfl (c3b m3 (a0O he) he he (l[i].slots[j].kinds[m]) rfl rfl (c8A Kind.name (fun k=>!k.vehicle) _ _)) ?_));refine go 4 ?_;exact a0h ⟨rfl,rfl,rfl,rfl,rfl,rfl,rfl,rfl,rfl,rfl,rfl,rfl,rfl,rfl,rfl,rfl,(bB (by simp only[h81,h87,bS])),trivial⟩ rfl rfl
        ·refine gC 0 (fun h92 p92=>?_) fun h92 p92=>?_
         ·refine go 22 ?_;exact q_v (congrArg Value.bool (by simp only[a1a,a0R hlt (show a3d (l.take i) l[i]=false by simp only[a3d,a0R hltj (show a3M (l.take i) (l[i].slots.take j) l[i].slots[j]=false by simp only[a3M,a0R hltm (show a8r (l.take i) (l[i].slots[j].kinds.take m) l[i].slots[j].kinds[m]=false by revert h92;simp only[a8r];cases hit _root_.id (l[i].slots[j].kinds.take m) l[i].slots[j].kinds[m]<;>simp),bS]),bS]),bS]))
         ·refine go 6 ?_;have h92n:hit _root_.id (l[i].slots[j].kinds.take m) l[i].slots[j].kinds[m]=false:=by revert h92;cases hit _root_.id (l[i].slots[j].kinds.take m) l[i].slots[j].kinds[m]<;>simp
          refine a4l (a2Q _root_.id (fun _=>Value.bool true) (l[i].slots[j].kinds.take (m+1))) (a0O he) he (l[i].slots[j].kinds[m]) rfl rfl rfl ((a9K _root_.id (fun _=>Value.bool true) (l[i].slots[j].kinds.take m) l[i].slots[j].kinds[m] (a7q h92n)).trans (by rw[a0e hltm])) ?_;refine go 8 ?_;exact a0s (m+1) ⟨oM,a0T hr hltm (by revert h92;simp only[a8r];cases hit _root_.id (l[i].slots[j].kinds.take m) l[i].slots[j].kinds[m]<;>simp)⟩ oM rfl sb rfl
       ·refine go 11 ?_;refine a0a ?_;exact a0s (j+1) ⟨oM,a0T hq hltj (by simp only[a3M,h72,(show m=l[i].slots[j].kinds.length from oM)▸hr];rfl)⟩ oM rfl sb rfl
    ·refine go 13 ?_;have h41n:hit Kind.name (l.take i) l[i].name=false:=by revert h41;cases hit Kind.name (l.take i) l[i].name<;>simp
     refine a0c ?_;refine a4l (a2Q Kind.name (fun k=>Value.bool (!k.vehicle)) (l.take (i+1))) (a0O he) he (l[i].name) rfl rfl rfl ((a9K Kind.name (fun k=>Value.bool (!k.vehicle)) (l.take i) l[i] (a7q h41n)).trans (by rw[a0e hlt])) ?_;refine go 8 ?_;refine a0b ?_;refine a0a ?_;refine a0b ?_;refine a0a ?_;exact a0s (i+1) ⟨oM,a0T hn hlt (by simp only[a3d,h41,(show j=l[i].slots.length from oM)▸hq];rfl)⟩ oM rfl sb rfl
 ·refine go 16 ?_;have e:i=l.length:=oM;subst e;exact q_v (congrArg Value.bool (by simp only[a1a,hn,bS]))
theorem a6X (I:IMap) (v:Value) (l:List Kind) (hv:RdS I v l) (s:ByteArray) :
    FnE prog 147 #[.agg #[v],.string s] I (KindIs I (a2D l s)):=by
 obtain⟨A,c0,rfl,hA,hc,hm⟩:=hv;refine enter func147 call147 rfl ntmps147 rfl fun w0=>?_;refine go 4 fun g2=>?_
 refine go 2 fun g4=>?_
 refine go 10 ?_;refine a0b ?_
 refine a0w (α:=Nat) 0 (fun i=>I)
  (fun i=>[(1,.string s),(2,.pointer (some ⟨g2,0,none⟩)),(4,.pointer (some ⟨g4,0,none⟩)),(6,.int .i64 (i:Int))])
  (fun i=>[.blk g2 24 [.slice A l.length c0],.blk g4 76 [.string ⟨#[]⟩,.bool false,.slice none 0 0]])
  (fun i=>i≤l.length∧∀j x,j<i→l[j]? = some x→(fun k=>decide (Kind.name k=s)) x=false)
  (fun i=>l.length-i) ⟨Nat.zero_le _,fun j x hj=>absurd hj (Nat.not_lt_zero j)⟩ rfl sb rfl ?_
 intro i ⟨hi,hn⟩;refine gC 10 (fun h11 p11=>?_) fun h11 p11=>?_
 ·have hlt:i<l.length:=oM;refine go 9 ?_;obtain⟨b17,o17,w17,e17,c17,r17⟩:=RdA.at_ hA (i:=i) hlt;obtain⟨q17,rfl,B17,d17,rfl,hB17,hd17,hm17⟩:=r17;refine gC 7 (fun h21 p21=>?_) fun h21 p21=>?_
  ·refine go 5 ?_;obtain⟨b25,o25,w25,e25,c25,r25⟩:=RdA.at_ hA (i:=i) hlt;obtain⟨q25,rfl,B25,d25,rfl,hB25,hd25,hm25⟩:=r25;refine go 3 ?_;refine a0b ?_;refine go 11 ?_;exact q_e (KindIs.of (c0w (p:=fun k=>decide (Kind.name k=s)) hlt h21 hn) ⟨_,rfl,B25,d25,rfl,hB25,hd25,hm25⟩)
  ·refine go 9 ?_;exact a0s (i+1) ⟨oM,a3c (p:=fun k=>decide (Kind.name k=s)) hn hlt h21⟩ oM rfl sb rfl
 ·refine go 9 ?_;refine a0b ?_;refine go 6 ?_;exact q_e (KindIs.none (c0x (p:=fun k=>decide (Kind.name k=s)) (fun j x hj=>hn j x oM)))
theorem c9n (I:IMap) (v:Value) (l:List Kind) (hv:RdS I v l) (x:Slot) (D:Option Addr) (d:Nat) (hD:RdS I (.slice D x.kinds.length d) x.kinds) (hs:SmS x) :
    FnV prog 148 #[.agg #[v],.agg #[.string x.name,.slice D x.kinds.length d,.int .i64 x.normal]] I (.bool (b5J l x)):=by
 have hDA:RdA I D x.kinds:=(by obtain⟨_,_,e,h,_⟩:=hD;cases e;exact h);have hDl:x.kinds.length≤d∧d≤9223372036854775807:=(by obtain⟨_,_,e,h,h1,h2⟩:=hD;cases e;exact⟨h1,h2⟩);have hv0:=hv;obtain⟨A,c0,rfl,hA,hc,hm⟩:=hv;refine enter func148 call148 rfl ntmps148 rfl fun w0=>?_;refine go 4 fun g2=>?_
 refine go 2 fun g3=>?_
 refine go 5 ?_;refine a1h (I':=I) (L':=[(2,.pointer (some ⟨g2,0,none⟩)),(3,.pointer (some ⟨g3,0,none⟩)),(24,.bool (((!a1W x.name||decide (x.normal<1))||decide ((x.kinds.length:Int)<x.normal))))]) (H':=[.blk g2 24 [.slice A l.length c0],.blk g3 130 (x.cells (.slice D x.kinds.length d))]) ?_ ?_
 ·refine go 4 ?_;refine cV (a7w _ _ hs.1) ?_;refine gS 2 12 (fun h12 p12=>?_) fun h12 p12=>?_
  ·refine go 14 ?_;refine a0b ?_;exact a0h ⟨rfl,rfl,(bB (by simp only[h12,bS])),trivial⟩ rfl rfl
  ·refine gS 5 17 (fun h17 p17=>?_) fun h17 p17=>?_
   ·refine go 9 ?_;refine a0b ?_;exact a0h ⟨rfl,rfl,(bB (by simp only[h12,h17,bS])),trivial⟩ rfl rfl
   ·refine go 9 ?_;refine a0b ?_;exact a0h ⟨rfl,rfl,(bB (by simp only[h12,h17,bS])),trivial⟩ rfl rfl
 ·refine gC 0 (fun h24 p24=>?_) fun h24 p24=>?_
  ·refine go 8 ?_;exact q_v (congrArg Value.bool (by simp only[b5J,h24];rfl))
  ·refine go 9 ?_
   refine a0w (α:=Nat) 0 (fun j=>I)
    (fun j=>[(2,.pointer (some ⟨g2,0,none⟩)),(3,.pointer (some ⟨g3,0,none⟩)),(5,.int .i64 (j:Int))])
    (fun j=>[.blk g2 24 [.slice A l.length c0],.blk g3 130 (x.cells (.slice D x.kinds.length d))])
    (fun j=>j≤x.kinds.length∧a2m (a5z l) x.kinds j=true)
    (fun j=>x.kinds.length-j) ⟨Nat.zero_le _,rfl⟩ rfl sb rfl ?_
   intro j ⟨hj,hq⟩;refine gC 10 (fun h29 p29=>?_) fun h29 p29=>?_
   ·have hlt:j<x.kinds.length:=oM;refine go 5 ?_;refine a3O (α:=Nat×Value) (Ix:=(fun q=>I)) (Lx:=(fun q=>[(2,.pointer (some ⟨g2,0,none⟩)),(3,.pointer (some ⟨g3,0,none⟩)),(5,.int .i64 (j:Int)),(6,.pointer (some ⟨q.1,0,none⟩)),(7,.bool (a2D l x.kinds[j]).isSome)])) (Hx:=(fun q=>[.blk q.1 76 (((a2D l x.kinds[j]).getD a4Y).cells q.2),.blk g2 24 [.slice A l.length c0],.blk g3 130 (x.cells (.slice D x.kinds.length d))])) (p:=(fun q=>RdS I q.2 ((a2D l x.kinds[j]).getD a4Y).slots)) ?_ ?_
    ·refine go 1 ?_;refine dG 0 4 ?_;obtain⟨b37,o37,w37,e37,c37,r37⟩:=RdA.at_ hDA (i:=j) hlt;obtain rfl:=r37;refine dG 4 2 ?_;refine dT2 6 10 ?_ ?_
     ·refine a2p (a6X I _ l hv0 x.kinds[j]) rfl rfl fun v39 q39=>?_;obtain⟨vs,rfl,ss,rfl,hsl⟩:=q39;refine dH 7 3 ?_;refine go 1 fun g6=>?_
      refine dH 11 0 ?_;refine a1A _ he rfl rfl rfl rfl rfl (by simp[Kind.cells,hsl.one];exact⟨rfl,rfl⟩) ?_;refine dG 12 1 ?_;refine go 2 ?_;exact a1s (_,ss) hsl sb rfl rfl
     ·refine go 1 fun g6=>?_
      refine dH 6 0 ?_;refine a2p (a6X I _ l hv0 x.kinds[j]) rfl rfl fun v39 q39=>?_;obtain⟨vs,rfl,ss,rfl,hsl⟩:=q39;refine dG 7 3 ?_;refine dH 11 0 ?_;refine a1A _ he rfl rfl rfl rfl rfl (by simp[Kind.cells,hsl.one];exact⟨rfl,rfl⟩) ?_;refine dG 12 1 ?_;refine go 2 ?_;exact a1s (_,ss) hsl sb rfl rfl
    ·rintro⟨g6,ss⟩ hsl;refine go 1 ?_;refine a1h (I':=I) (L':=[(2,.pointer (some ⟨g2,0,none⟩)),(3,.pointer (some ⟨g3,0,none⟩)),(5,.int .i64 (j:Int)),(59,.bool (((!(a2D l x.kinds[j]).isSome||((a2D l x.kinds[j]).getD a4Y).vehicle)||decide (x.kinds[j]∈x.kinds.take j))))]) (H':=[.blk g2 24 [.slice A l.length c0],.blk g3 130 (x.cells (.slice D x.kinds.length d))]) ?_ ?_
     ·refine go 1 ?_;refine dG 0 3 ?_;refine gS 0 44 (fun h44 p44=>?_) fun h44 p44=>?_
      ·refine dG 3 15 ?_;refine go 2 ?_;refine a0a ?_;exact a0h ⟨rfl,rfl,rfl,(bB (by simp only[h44,bS])),trivial⟩ rfl rfl
      ·refine dG 3 4 ?_;refine gS 0 48 (fun h48 p48=>?_) fun h48 p48=>?_
       ·refine dG 7 11 ?_;refine go 2 ?_;refine a0a ?_;exact a0h ⟨rfl,rfl,rfl,(bB (by simp only[h44,h48,bS])),trivial⟩ rfl rfl
       ·refine dG 7 3 ?_;refine d_t 10 rfl rfl (by kernel_rfl) rfl (fun _ m=>m.keeps (.refl _)) (a2L rfl rfl h48 (a1y he rfl rfl j oM oM)) ?_;refine dG 11 3 ?_;obtain⟨b56,o56,w56,e56,c56,r56⟩:=RdA.at_ hDA (i:=j) hlt;obtain rfl:=r56;refine dH 14 2 ?_;refine a0z rfl rfl h48 (a0x (d3N I _ (x.kinds.take j) x.kinds[j] (hD.take j oM)) rfl rfl ?_);refine dG 17 1 ?_;refine go 2 ?_;refine a0a ?_;exact a0h ⟨rfl,rfl,rfl,(bB (by simp only[h44,h48,bS])),trivial⟩ rfl rfl
     ·refine gC 0 (fun h59 p59=>?_) fun h59 p59=>?_
      ·refine go 12 ?_;exact q_v (congrArg Value.bool (by simp only[b5J,a0R hlt (show a5z l (x.kinds.take j) x.kinds[j]=false by simp only[a5z,h59];rfl),bS]))
      ·refine go 9 ?_;exact a0s (j+1) ⟨oM,a0T hq hlt (by simp only[a5z,h59];rfl)⟩ oM rfl sb rfl
   ·refine go 12 ?_;have e:j=x.kinds.length:=oM;subst e;exact q_v (congrArg Value.bool (by simp only[b5J,hq,h24];rfl))
theorem a8Z (I:IMap) (v:Value) (l:List Kind) (hv:RdS I v l) (hs:SmC l) :
    FnV prog 94 #[.agg #[v]] I (.bool (a6K l)):=by
 have hv0:=hv;obtain⟨A,c0,rfl,hA,hc,hm⟩:=hv;refine enter func94 call94 rfl ntmps94 rfl fun w0=>?_;refine go 4 fun g1=>?_
 refine gC 12 (fun h13 p13=>?_) fun h13 p13=>?_
 ·refine go 8 ?_;exact q_v (congrArg Value.bool (by simp only[a6K,h13];rfl))
 ·refine go 9 ?_
  refine a0w (α:=Nat) 0 (fun i=>I)
   (fun i=>[(1,.pointer (some ⟨g1,0,none⟩)),(3,.int .i64 (i:Int))])
   (fun i=>[.blk g1 24 [.slice A l.length c0]])
   (fun i=>i≤l.length∧a2m a2X l i=true)
   (fun i=>l.length-i) ⟨Nat.zero_le _,rfl⟩ rfl sb rfl ?_
  intro i ⟨hi,hn⟩;refine gC 10 (fun h18 p18=>?_) fun h18 p18=>?_
  ·have hlt:i<l.length:=oM;refine go 9 ?_;obtain⟨b24,o24,w24,e24,c24,r24⟩:=RdA.at_ hA (i:=i) hlt;obtain⟨q24,rfl,B24,d24,rfl,hB24,hd24,hm24⟩:=r24;refine go 4 fun g4=>?_
   refine go 9 ?_;refine o_v rfl (a1y he rfl rfl i oM oM) ?_;refine go 3 fun g5=>?_
   refine go 10 ?_;refine a2p (a6X _ _ (l.take i) (hv0.take i oM) l[i].name) rfl rfl fun v35 q35=>?_;obtain⟨vs,rfl,s35,rfl,hsl⟩:=q35;refine go 5 fun g6=>?_
   refine go 1 ?_;refine a1A _ he rfl rfl rfl rfl rfl (by simp[Kind.cells,hsl.one];exact⟨rfl,rfl⟩) ?_;refine go 5 ?_;refine a1h (I':=I) (L':=[(1,.pointer (some ⟨g1,0,none⟩)),(3,.int .i64 (i:Int)),(4,.pointer (some ⟨g4,0,none⟩)),(5,.pointer (some ⟨g5,0,none⟩)),(50,.bool (((a2D (l.take i) l[i].name).isSome || !a1W l[i].name)||decide ((12:Int)<(l[i].slots.length:Nat))))]) (H':=[.blk g5 24 [.slice A i c0],.blk g4 76 (l[i].cells (.slice B24 l[i].slots.length d24)),.blk g1 24 [.slice A l.length c0]]) ?_ ?_
   ·refine gS 3 39 (fun h39 p39=>?_) fun h39 p39=>?_
    ·refine go 13 ?_;refine a0a ?_;exact a0h ⟨rfl,rfl,rfl,rfl,(bB (by simp only[h18,h39,bS])),trivial⟩ rfl rfl
    ·refine go 3 ?_;refine a0z rfl rfl h39 (a0x (a7w _ _ (hs _ (List.getElem_mem hlt)).1) rfl rfl ?_);refine gS 3 45 (fun h45 p45=>?_) fun h45 p45=>?_
     ·refine go 7 ?_;refine a0a ?_;exact a0h ⟨rfl,rfl,rfl,rfl,(bB (by simp only[h18,h39,h45,bS])),trivial⟩ rfl rfl
     ·refine go 7 ?_;refine a0a ?_;exact a0h ⟨rfl,rfl,rfl,rfl,(bB (by simp only[h18,h39,h45,bS])),trivial⟩ rfl rfl
   ·refine gC 0 (fun h50 p50=>?_) fun h50 p50=>?_
    ·refine go 13 ?_;exact q_v (congrArg Value.bool (by simp only[a6K,a0R hlt (show a2X (l.take i) l[i]=false by simp only[a2X,h50];rfl),bS]))
    ·refine go 4 ?_;refine a0G 9 1 ?_;refine go 9 ?_
     refine a2B ((0:Nat)) (_) ([]) (fun j v8 xs=>I)
      (fun j v8 xs=>[(1,.pointer (some ⟨g1,0,none⟩)),(3,.int .i64 (i:Int)),(4,.pointer (some ⟨g4,0,none⟩)),(5,.pointer (some ⟨g5,0,none⟩)),(8,v8),(9,.int .i64 (j:Int))])
      (fun j v8 xs=>[.row v8 9 1 j xs,.blk g5 24 [.slice A i c0],.blk g4 76 (l[i].cells (.slice B24 l[i].slots.length d24)),.blk g1 24 [.slice A l.length c0]])
      (fun j v8 xs=>j≤l[i].slots.length∧a2m (a3V (l.take i)) l[i].slots j=true∧Flat I xs ((l[i].slots.take j).map Slot.name))
      (fun j v8 xs=>l[i].slots.length-j) ⟨Nat.zero_le _,rfl,.nil⟩ rfl sb rfl ?_
     intro j v8 xs ⟨hj,hq,hF⟩;refine gC 10 (fun h55 p55=>?_) fun h55 p55=>?_
     ·have hltj:j<l[i].slots.length:=oM;have h12:l[i].slots.length≤12:=by revert h50;simp only[Bool.or_eq_false_iff,decide_eq_false_iff_not];omega
      refine go 6 ?_;refine a1h (I':=I) (L':=[(1,.pointer (some ⟨g1,0,none⟩)),(3,.int .i64 (i:Int)),(4,.pointer (some ⟨g4,0,none⟩)),(5,.pointer (some ⟨g5,0,none⟩)),(8,v8),(9,.int .i64 (j:Int)),(75,.bool ((!b5J (l.take i) l[i].slots[j])||decide (l[i].slots[j].name∈(l[i].slots.take j).map Slot.name)))]) (H':=[.row v8 9 1 j xs,.blk g5 24 [.slice A i c0],.blk g4 76 (l[i].cells (.slice B24 l[i].slots.length d24)),.blk g1 24 [.slice A l.length c0]]) ?_ ?_
      ·refine go 1 ?_;refine dG 0 4 ?_;obtain⟨b62,o62,w62,e62,c62,r62⟩:=RdA.at_ hB24 (i:=j) hltj;obtain⟨q62,rfl,B62,d62,rfl,hB62,hd62,hm62⟩:=r62;refine a0F 4 rfl rfl (by kernel_rfl) rfl (.refl _) rfl (a0i he rfl rfl e62 (j) oM hltj) ?_;refine dH 5 1 ?_;refine cV (c9n _ _ (l.take i) (hv0.take i oM) l[i].slots[j] B62 d62 ⟨_,_,rfl,hB62,hd62,hm62⟩ ((hs _ (List.getElem_mem hlt)).2 _ (List.getElem_mem hltj))) ?_;refine dG 7 2 ?_;refine gS 0 66 (fun h66 p66=>?_) fun h66 p66=>?_
       ·refine dG 9 9 ?_;refine go 2 ?_;exact a0h ⟨rfl,rfl,rfl,rfl,rfl,rfl,(bB (by simp only[h55,h66,bS])),trivial⟩ rfl rfl
       ·refine dG 9 4 ?_;obtain⟨b71,o71,w71,e71,c71,r71⟩:=RdA.at_ hB24 (i:=j) hltj;obtain⟨q71,rfl,B71,d71,rfl,hB71,hd71,hm71⟩:=r71;refine d_t 13 rfl rfl (by kernel_rfl) rfl (fun _ m=>m.keeps (.refl _)) (a2L rfl rfl h66 (a0i he rfl rfl e71 (j) oM hltj)) ?_;refine dH 14 2 ?_;refine a0z rfl rfl h66 (a9S m0 rfl (by simp;omega) (hF) (fun I2 hI2 hR=>d3N I2 _ _ l[i].slots[j].name hR) rfl rfl ?_);refine dG 17 1 ?_;refine go 2 ?_;exact a0h ⟨rfl,rfl,rfl,rfl,rfl,rfl,(bB (by simp only[h55,h66,bS])),trivial⟩ rfl rfl
      ·refine gC 0 (fun h75 p75=>?_) fun h75 p75=>?_
       ·refine go 17 ?_;exact q_v (congrArg Value.bool (by simp only[a6K,a0R hlt (show a2X (l.take i) l[i]=false by simp only[a2X,a0R hltj (show a3V (l.take i) (l[i].slots.take j) l[i].slots[j]=false by simp only[a3V,h75];rfl),bS]),bS]))
       ·refine go 7 ?_;obtain⟨b80,o80,w80,e80,c80,r80⟩:=RdA.at_ hB24 (i:=j) hltj;obtain⟨q80,rfl,B80,d80,rfl,hB80,hd80,hm80⟩:=r80;refine o_v rfl (a0i he rfl rfl e80 (j) oM hltj) ?_;refine go 4 fun v83=>?_
        refine go 1 ?_;refine a0b ?_;refine a0o he he rfl rfl rfl rfl rfl oM oM rfl fun v84=>?_;refine go 10 ?_;refine a0b ?_;refine a0a ?_;exact a1r (j+1) (_) (_) ⟨oM,a0T hq hltj (by simp only[a3V,h75];rfl),by rw[←a0e hltj,List.map_append];exact hF.append (.one rfl)⟩ oM rfl sb rfl
     ·refine go 12 ?_;refine a0a ?_;refine a0a ?_;refine a0a ?_;exact a0s (i+1) ⟨oM,a0T hn hlt (by simp only[a2X,h50,(show j=l[i].slots.length from oM)▸hq];rfl)⟩ oM rfl sb rfl
  ·refine go 12 ?_;have e:i=l.length:=oM;subst e;exact q_v (congrArg Value.bool (by simp only[a6K,hn,h13];rfl))
theorem d2w (I:IMap) (v:Value) (l:List Kind) (hv:RdS I v l) :
    FnV prog 38 #[.agg #[v]] I (.bool (c4d l)):=by
 obtain⟨A,c0,rfl,hA,hc,hm⟩:=hv;refine enter func38 call38 rfl ntmps38 rfl fun w0=>?_;refine go 4 fun g1=>?_
 refine gC 12 (fun h10 p10=>?_) fun h10 p10=>?_
 ·refine go 8 ?_;exact q_v (congrArg Value.bool (by simp only[c4d,h10];rfl))
 ·refine go 9 ?_
  refine a0w (α:=Nat) 0 (fun i=>I)
   (fun i=>[(1,.pointer (some ⟨g1,0,none⟩)),(3,.int .i64 (i:Int))])
   (fun i=>[.blk g1 24 [.slice A l.length c0]])
   (fun i=>i≤l.length∧a2m (fun _ k=>a3B k) l i=true)
   (fun i=>l.length-i) ⟨Nat.zero_le _,rfl⟩ rfl sb rfl ?_
  intro i ⟨hi,hn⟩;refine gC 10 (fun h15 p15=>?_) fun h15 p15=>?_
  ·have hlt:i<l.length:=oM;refine go 9 ?_;obtain⟨b21,o21,w21,e21,c21,r21⟩:=RdA.at_ hA (i:=i) hlt;obtain⟨q21,rfl,B21,d21,rfl,hB21,hd21,hm21⟩:=r21;refine go 4 fun g4=>?_
   refine go 6 ?_;refine a1h (I':=I) (L':=[(1,.pointer (some ⟨g1,0,none⟩)),(3,.int .i64 (i:Int)),(4,.pointer (some ⟨g4,0,none⟩)),(32,.bool (decide ((100:Int)<(l[i].name.size:Nat))||decide ((15:Int)<(l[i].slots.length:Nat))))]) (H':=[.blk g4 76 (l[i].cells (.slice B21 l[i].slots.length d21)),.blk g1 24 [.slice A l.length c0]]) ?_ ?_
   ·refine gS 6 27 (fun h27 p27=>?_) fun h27 p27=>?_
    ·refine go 7 ?_;exact a0h ⟨rfl,rfl,rfl,(bB (by simp only[h15,h27,bS])),trivial⟩ rfl rfl
    ·refine go 7 ?_;exact a0h ⟨rfl,rfl,rfl,(bB (by simp only[h15,h27,bS])),trivial⟩ rfl rfl
   ·refine gC 0 (fun h32 p32=>?_) fun h32 p32=>?_
    ·refine go 13 ?_;exact q_v (congrArg Value.bool (by simp only[c4d,a0R (f:=fun _ k=>a3B k) hlt (show a3B l[i]=false by simp only[a3B,h32,bS]),bS]))
    ·refine go 8 ?_
     refine a0w (α:=Nat) 0 (fun j=>I)
      (fun j=>[(1,.pointer (some ⟨g1,0,none⟩)),(3,.int .i64 (i:Int)),(4,.pointer (some ⟨g4,0,none⟩)),(5,.int .i64 (j:Int))])
      (fun j=>[.blk g4 76 (l[i].cells (.slice B21 l[i].slots.length d21)),.blk g1 24 [.slice A l.length c0]])
      (fun j=>j≤l[i].slots.length∧a2m (fun _ s=>a4T s) l[i].slots j=true)
      (fun j=>l[i].slots.length-j) ⟨Nat.zero_le _,rfl⟩ rfl sb rfl ?_
     intro j ⟨hj,hq⟩;refine gC 10 (fun h37 p37=>?_) fun h37 p37=>?_
     ·have hltj:j<l[i].slots.length:=oM;refine go 6 ?_;refine a1h (I':=I) (L':=[(1,.pointer (some ⟨g1,0,none⟩)),(3,.int .i64 (i:Int)),(4,.pointer (some ⟨g4,0,none⟩)),(5,.int .i64 (j:Int)),(57,.bool (decide ((100:Int)<(l[i].slots[j].name.size:Nat))||decide ((15:Int)<(l[i].slots[j].kinds.length:Nat))))]) (H':=[.blk g4 76 (l[i].cells (.slice B21 l[i].slots.length d21)),.blk g1 24 [.slice A l.length c0]]) ?_ ?_
      ·refine go 4 ?_;obtain⟨b43,o43,w43,e43,c43,r43⟩:=RdA.at_ hB21 (i:=j) hltj;obtain⟨q43,rfl,B43,d43,rfl,hB43,hd43,hm43⟩:=r43;refine o_v rfl (a0i he rfl rfl e43 (j) oM hltj) ?_;refine gS 5 48 (fun h48 p48=>?_) fun h48 p48=>?_
       ·refine go 11 ?_;exact a0h ⟨rfl,rfl,rfl,rfl,(bB (by simp only[h37,h48,bS])),trivial⟩ rfl rfl
       ·refine go 3 ?_;obtain⟨b52,o52,w52,e52,c52,r52⟩:=RdA.at_ hB21 (i:=j) hltj;obtain⟨q52,rfl,B52,d52,rfl,hB52,hd52,hm52⟩:=r52;refine a0P (a0z rfl rfl h48 (a0k rfl (a0i he rfl rfl e52 (j) oM hltj) ?_));refine go 7 ?_;exact a0h ⟨rfl,rfl,rfl,rfl,(bB (by simp only[h37,h48,bS])),trivial⟩ rfl rfl
      ·refine gC 0 (fun h57 p57=>?_) fun h57 p57=>?_
       ·refine go 17 ?_;exact q_v (congrArg Value.bool (by simp only[c4d,a0R (f:=fun _ k=>a3B k) hlt (show a3B l[i]=false by simp only[a3B,a0R (f:=fun _ s=>a4T s) hltj (show a4T l[i].slots[j]=false by simp only[a4T,h57];rfl),bS]),bS]))
       ·refine go 8 ?_
        refine a0w (α:=Nat) 0 (fun m=>I)
         (fun m=>[(1,.pointer (some ⟨g1,0,none⟩)),(3,.int .i64 (i:Int)),(4,.pointer (some ⟨g4,0,none⟩)),(5,.int .i64 (j:Int)),(6,.int .i64 (m:Int))])
         (fun m=>[.blk g4 76 (l[i].cells (.slice B21 l[i].slots.length d21)),.blk g1 24 [.slice A l.length c0]])
         (fun m=>m≤l[i].slots[j].kinds.length∧a2m (fun _ k=>!decide ((100:Int)<((k:ByteArray).size:Nat))) l[i].slots[j].kinds m=true)
         (fun m=>l[i].slots[j].kinds.length-m) ⟨Nat.zero_le _,rfl⟩ rfl sb rfl ?_
        intro m ⟨hmm,hr⟩;refine go 7 ?_;obtain⟨b62,o62,w62,e62,c62,r62⟩:=RdA.at_ hB21 (i:=j) hltj;obtain⟨q62,rfl,B62,d62,rfl,hB62,hd62,hm62⟩:=r62;refine o_v rfl (a0i he rfl rfl e62 (j) oM hltj) ?_;refine gC 6 (fun h66 p66=>?_) fun h66 p66=>?_
        ·have hltm:m<l[i].slots[j].kinds.length:=oM;refine go 9 ?_;obtain⟨b72,o72,w72,e72,c72,r72⟩:=RdA.at_ hB21 (i:=j) hltj;obtain⟨q72,rfl,B72,d72,rfl,hB72,hd72,hm72⟩:=r72;refine o_v rfl (a0i he rfl rfl e72 (j) oM hltj) ?_;refine go 3 ?_;obtain⟨b76,o76,w76,e76,c76,r76⟩:=RdA.at_ hB72 (i:=m) hltm;obtain rfl:=r76;refine o_v rfl (a0i he rfl rfl e76 (m) oM hltm) ?_;refine gC 5 (fun h79 p79=>?_) fun h79 p79=>?_
         ·refine go 20 ?_;exact q_v (congrArg Value.bool (by simp only[c4d,a0R (f:=fun _ k=>a3B k) hlt (show a3B l[i]=false by simp only[a3B,a0R (f:=fun _ s=>a4T s) hltj (show a4T l[i].slots[j]=false by simp only[a4T,a0R (f:=fun _ k=>!decide ((100:Int)<((k:ByteArray).size:Nat))) hltm (show (!decide ((100:Int)<((l[i].slots[j].kinds[m]).size:Nat)))=false by simp only[h79];rfl),bS]),bS]),bS]))
         ·refine go 9 ?_;exact a0s (m+1) ⟨oM,a0T hr hltm (by simp only[h79];rfl)⟩ oM rfl sb rfl
        ·refine go 12 ?_;exact a0s (j+1) ⟨oM,a0T hq hltj (by simp only[a4T,h57,(show m=l[i].slots[j].kinds.length from oM)▸hr];rfl)⟩ oM rfl sb rfl
     ·refine go 12 ?_;refine a0a ?_;exact a0s (i+1) ⟨oM,a0T hn hlt (by simp only[a3B,h32,(show j=l[i].slots.length from oM)▸hq];rfl)⟩ oM rfl sb rfl
  ·refine go 12 ?_;have e:i=l.length:=oM;subst e;exact q_v (congrArg Value.bool (by simp only[c4d,hn,h10];rfl))
end Go.Proofs.YtkndpfncklhhlaaGreat
namespace Go.Proofs.YtkndpfncklhhlaaGreat
open Go Go.Sx Tryz
set_option linter.all false
set_option maxRecDepth 20000
set_option maxHeartbeats 4000000
instance:Has (b9B prog 195) (3,194,1):=hk
instance:Has (b9B prog 243) (8,9,1):=hk
theorem T.eqg_72:prog.eqGuardType prog.depth 72=false:=by kernel_rfl
instance:Has (a3C prog 34 0) (0,false,1):=hk
instance:Has (a3C prog 34 1) (1,false,1):=hk
instance:Has (a3C prog 70 0) (0,true,2):=hk
instance:Has (a3C prog 70 1) (2,true,2):=hk
instance:Has (a3C prog 70 2) (4,true,2):=hk
instance:Has (a3C prog 72 0) (0,false,1):=hk
instance:Has (a3C prog 72 1) (1,false,1):=hk
instance:Has (a3C prog 72 2) (2,false,1):=hk
instance:Has (a3C prog 72 3) (3,false,1):=hk
instance:Has (a3C prog 72 4) (4,false,1):=hk
instance:Has (a3C prog 72 5) (5,false,1):=hk
instance:Has (a3C prog 72 6) (6,false,1):=hk
instance:Has (a3C prog 72 7) (7,false,1):=hk
instance:Has (a3C prog 72 8) (8,true,6):=hk
instance:Has (plK prog 70) [(0,2),(2,2),(4,2)]:=hk
instance:Has (plK prog 72) [(0,1),(1,1),(2,1),(3,1),(4,1),(5,1),(6,1),(7,1),(8,6)]:=hk
instance:Has (tyK prog 194) (false,1):=hk
instance:Has (tyK prog 195) (true,3):=hk
instance:Has (tyK prog 243) (true,8):=hk
instance:Has (tyK prog 70) (true,6):=hk
instance:Has (a2r prog 195) [.pointer none,.pointer none,.pointer none]:=hk
instance:Has (a2r prog 243) [.string ⟨#[]⟩,.string ⟨#[]⟩,.string ⟨#[]⟩,.string ⟨#[]⟩,.string ⟨#[]⟩,.string ⟨#[]⟩,.string ⟨#[]⟩,.string ⟨#[]⟩]:=hk
instance:Has (a2r prog 70) [.int .i64 0,.int .i64 0,.int .i64 0,.int .i64 0,.int .i64 0,.int .i64 0]:=hk
instance:Has (a2r prog 72) [.int .i64 0,.int .i64 0,.string ⟨#[]⟩,.string ⟨#[]⟩,.string ⟨#[]⟩,.string ⟨#[]⟩,.string ⟨#[]⟩,.string ⟨#[]⟩,.int .i64 0,.int .i64 0,.int .i64 0,.int .i64 0,.int .i64 0,.int .i64 0]:=hk
theorem a9x (a b:Ivl):eqV prog 9 34 (.agg a.cells.toArray) (.agg b.cells.toArray)=some (decide (a=b)):=by
 rw[←Ivl.eqB_eq]
 kernel_rfl
theorem c3X (a b:Life):eqV prog 9 36 (.agg a.cells.toArray) (.agg b.cells.toArray)=some (decide (a=b)):=by
 rw[←Life.eqB_eq]
 kernel_rfl
theorem b1O (a b:Evt):eqV prog 9 72 (.agg a.cells.toArray) (.agg b.cells.toArray)=some (decide (a=b)):=by
 rw[←Evt.eqB_eq]
 kernel_rfl
theorem d1k (I:IMap) (op:Int) :
    FnV prog 133 #[.int .i64 op] I (.string (b0u op)):=by
 refine enter func133 call133 rfl ntmps133 rfl fun w0=>?_;refine go 8 ?_;refine a0k rfl (b2D he he rfl rfl) ?_;refine go 2 fun g3=>?_
 refine gS 10 7 (fun h7 p7=>?_) fun h7 p7=>?_
 ·refine go 14 ?_;exact q_v (congrArg Value.string (b1y oM).symm)
 ·refine gC 5 (fun h10 p10=>?_) fun h10 p10=>?_
  ·refine go 8 ?_;exact q_v (congrArg Value.string (b1y oM).symm)
  ·refine go 5 ?_;refine o_v rfl (a5o he rfl rfl op.toNat oM oM) ?_;refine o_v rfl (b0v m0 he rfl (by rw[show 0+op.toNat * 1=op.toNat from by omega];exact c3l oM oM)) ?_;refine go 5 ?_;exact q_v rfl
theorem d1j (I:IMap) (g o:Nat) :
    FnV prog 134 #[.pointer (some ⟨g,o,none⟩)] I (.agg #[.pointer (some ⟨g,o+0,none⟩),.pointer (some ⟨g,o+2,none⟩),.pointer (some ⟨g,o+4,none⟩)]):=by
 refine enter func134 call134 rfl ntmps134 rfl fun w0=>?_;refine go 4 fun g2=>?_
 refine go 3 ?_;refine ds1 ?_;refine dH 0 9 ?_;refine a0k rfl (b2D he he rfl rfl) ?_;refine dH 10 0 ?_;refine go 6 ?_;exact q_v rfl
theorem c3Z (I:IMap) (s:ByteArray) (hs:Sm s) :
    FnV prog 136 #[.string s] I (.bool (!a2j s)):=by
 refine enter func136 call136 rfl ntmps136 rfl fun w0=>?_;refine go 9 ?_;refine cV (a7X _ s hs) ?_;refine go 6 ?_;exact q_v rfl
theorem b4J (I:IMap) (e:Evt) (hs:SmE e) :
    FnV prog 85 #[.agg e.cells.toArray] I (.bool (a1t e)):=by
 refine enter func85 call85 rfl ntmps85 rfl fun w0=>?_;refine go 4 fun g1=>?_
 refine go 5 ?_;refine a1h (I':=I) (L':=[(1,.pointer (some ⟨g1,0,none⟩)),(26,.bool (a9y e))]) (H':=[.blk g1 72 e.cells]) ?_ ?_
 ·refine go 4 ?_;refine cV (d1k _ e.op) ?_;refine gS 2 11 (fun h11 p11=>?_) fun h11 p11=>?_
  ·refine go 17 ?_;exact a0h ⟨rfl,(bB (by simp only[a9y,h11,bS])),trivial⟩ rfl rfl
  ·refine gS 5 16 (fun h16 p16=>?_) fun h16 p16=>?_
   ·refine go 12 ?_;exact a0h ⟨rfl,(bB (by simp only[a9y,h11,h16,bS])),trivial⟩ rfl rfl
   ·refine gS 5 21 (fun h21 p21=>?_) fun h21 p21=>?_
    ·refine go 7 ?_;exact a0h ⟨rfl,(bB (by simp only[a9y,h11,h16,h21,bS])),trivial⟩ rfl rfl
    ·refine go 3 ?_;refine a0z rfl rfl h21 (a0x (a7X _ _ hs.1) rfl rfl ?_);refine go 4 ?_;exact a0h ⟨rfl,(bB (by simp only[a9y,h11,h16,h21,bS])),trivial⟩ rfl rfl
 ·refine gC 0 (fun h26 p26=>?_) fun h26 p26=>?_
  ·refine go 8 ?_;exact q_v (congrArg Value.bool (by simp only[a1t,h26];rfl))
  ·refine go 6 fun v27=>?_
   refine go 8 fun g4=>?_
   refine go 18 ?_;refine a9s (Ix:=(fun v3 xs=>I)) (Lx:=(fun v3 xs=>[(3,v3),(4,.pointer (some ⟨g4,0,none⟩))])) (Hx:=(fun v3 xs=>[.row v3 9 1 (a1P e).length xs,.blk g4 72 (a6c e).cells])) (p:=(fun v3 xs=>Flat I xs (a1P e)∧a5M e=false)) ?_ ?_
   ·refine gC 13 (fun h34 p34=>?_) fun h34 p34=>?_
    ·refine go 5 fun v38=>?_
     refine go 3 ?_;refine a0b ?_;refine go 4 ?_;refine a0c ?_;refine a0a ?_;refine a0c ?_;refine a0a ?_;refine a0b ?_;exact a3G (_) (_) ⟨(by simp only[a1P,p26,p34,if_true,if_false];first|exact .nil|exact .one rfl|exact .cons rfl (.one rfl)),(by simp[a5M,p26,p34,h26,h34]<;>assumption)⟩ sb (by simp only[a1P,a6c,p26,p34,if_true,if_false];rfl) rfl
    ·refine gC 6 (fun h40 p40=>?_) fun h40 p40=>?_
     ·refine gC 10 (fun h46 p46=>?_) fun h46 p46=>?_
      ·refine go 10 ?_;exact q_v (congrArg Value.bool (by simp[a1t,a5M,p26,p34,p40,p46,h26,h34,h40,h46]))
      ·refine go 9 fun v51=>?_
       refine go 3 ?_;refine a0b ?_;refine go 7 ?_;refine a0c ?_;refine a0a ?_;refine a0c ?_;refine a0a ?_;refine a0b ?_;exact a3G (_) (_) ⟨(by simp only[a1P,p26,p34,p40,p46,if_true,if_false];first|exact .nil|exact .one rfl|exact .cons rfl (.one rfl)),(by simp[a5M,p26,p34,p40,p46,h26,h34,h40,h46]<;>assumption)⟩ sb (by simp only[a1P,a6c,p26,p34,p40,p46,if_true,if_false];rfl) rfl
     ·refine gC 6 (fun h54 p54=>?_) fun h54 p54=>?_
      ·refine go 2 ?_;refine a1h (I':=I) (L':=[(1,.pointer (some ⟨g1,0,none⟩)),(3,v27),(4,.pointer (some ⟨g4,0,none⟩)),(64,.bool (decide (e.value=a1b)||decide ((200:Int)<(e.value.size:Nat))))]) (H':=[.row v27 9 1 0 [],.blk g1 72 e.cells,.blk g4 72 ({ e with op:=0,day:=0,part:=a1b }:Evt).cells]) ?_ ?_
       ·refine gS 5 59 (fun h59 p59=>?_) fun h59 p59=>?_
        ·refine go 7 ?_;refine a0c ?_;refine a0c ?_;exact a0h ⟨rfl,rfl,rfl,(bB (by simp only[h26,h34,h40,h54,h59,bS])),trivial⟩ rfl rfl
        ·refine go 7 ?_;refine a0c ?_;refine a0c ?_;exact a0h ⟨rfl,rfl,rfl,(bB (by simp only[h26,h34,h40,h54,h59,bS])),trivial⟩ rfl rfl
       ·refine gC 0 (fun h64 p64=>?_) fun h64 p64=>?_
        ·refine go 10 ?_;exact q_v (congrArg Value.bool (by simp[a1t,a5M,p54,h64]))
        ·refine go 7 fun v67=>?_
         refine go 3 ?_;refine a0p ?_;refine go 7 ?_;refine a0c ?_;refine a0a ?_;refine a0c ?_;refine a0a ?_;refine a0b ?_;exact a3G (_) (_) ⟨(by simp only[a1P,p26,p34,p40,p54,p64,if_true,if_false];first|exact .nil|exact .one rfl|exact .cons rfl (.one rfl)),(by simp[a5M,p26,p34,p40,p54,p64,h64]<;>assumption)⟩ sb (by simp only[a1P,a6c,p26,p34,p40,p54,p64,if_true,if_false];rfl) rfl
      ·refine gC 6 (fun h70 p70=>?_) fun h70 p70=>?_
       ·refine go 5 ?_;refine cV (d1j _ g1 8) ?_;refine go 4 ?_;refine a0b ?_;refine a0b ?_;refine a0c ?_
        refine a0w (α:=Nat) 0 (fun i=>I)
         (fun i=>[(1,.pointer (some ⟨g1,0,none⟩)),(3,v27),(4,.pointer (some ⟨g4,0,none⟩)),(73,.agg (b5N g1 8).toArray),(74,.int .i64 (i:Int))])
         (fun i=>[.blk g1 72 e.cells,.blk g4 72 ({ e with op:=0,day:=0,part:=a1b }:Evt).cells,.row v27 9 1 0 []])
         (fun i=>i≤3∧b0J e.use i=true)
         (fun i=>3-i) ⟨oM,rfl⟩ rfl sb rfl ?_
        intro i ⟨hi,hn⟩;refine gC 6 (fun h75 p75=>?_) fun h75 p75=>?_
        ·have hlt:i<3:=oM;refine go 6 ?_;refine o_v rfl (d2V he he rfl rfl i rfl hlt (b9j g1 8 hlt)) ?_;refine go 4 ?_;refine a1h (I':=I) (L':=[(1,.pointer (some ⟨g1,0,none⟩)),(3,v27),(4,.pointer (some ⟨g4,0,none⟩)),(73,.agg (b5N g1 8).toArray),(74,.int .i64 (i:Int)),(99,.bool (!b0G (b4g e.use i)))]) (H':=[.blk g1 72 e.cells,.blk g4 72 ({ e with op:=0,day:=0,part:=a1b }:Evt).cells,.row v27 9 1 0 []]) ?_ ?_
         ·refine go 1 ?_;refine dG 0 3 ?_;refine a0F 3 rfl rfl (by kernel_rfl) rfl (.refl _) rfl (b0v m0 he rfl (c2U e hlt)) ?_;refine dG 4 2 ?_;refine gS 0 82 (fun h82 p82=>?_) fun h82 p82=>?_
          ·refine dG 6 17 ?_;refine go 2 ?_;exact a0h ⟨rfl,rfl,rfl,rfl,rfl,(bB (by simp only[b0G,h75,h82,bS,Bool.not_not])),trivial⟩ rfl rfl
          ·refine dG 6 3 ?_;refine d_t 9 rfl rfl (by kernel_rfl) rfl (fun _ m=>m.keeps (.refl _)) (a2L rfl rfl h82 (b0v m0 he rfl (c2U e hlt))) ?_;refine dG 10 3 ?_;refine d_t 13 rfl rfl (by kernel_rfl) rfl (fun _ m=>m.keeps (.refl _)) (a2L rfl rfl h82 (b0v m0 he rfl (b7M e hlt))) ?_;refine dG 14 3 ?_;refine gS 0 93 (fun h93 p93=>?_) fun h93 p93=>?_
           ·refine dG 17 6 ?_;refine go 2 ?_;exact a0h ⟨rfl,rfl,rfl,rfl,rfl,(bB (by simp only[b0G,h75,h82,h93,bS,Bool.not_not])),trivial⟩ rfl rfl
           ·refine dG 17 3 ?_;refine d_t 20 rfl rfl (by kernel_rfl) rfl (fun _ m=>m.keeps (.refl _)) (a2L rfl rfl h93 (b0v m0 he rfl (b7M e hlt))) ?_;refine dG 21 2 ?_;refine go 2 ?_;exact a0h ⟨rfl,rfl,rfl,rfl,rfl,(bB (by simp only[b0G,h75,h82,h93,bS,Bool.not_not])),trivial⟩ rfl rfl
         ·refine gC 0 (fun h99 p99=>?_) fun h99 p99=>?_
          ·refine go 14 ?_;exact q_v (congrArg Value.bool (by simp[a1t,a5M,p70,c9Z hlt (by simpa using h99)]))
          ·refine go 8 ?_;exact a0s (i+1) ⟨oM,c5U hn (by simpa using h99)⟩ oM rfl sb rfl
        ·have hU:b0J e.use 3=true:=(show i=3 from oM)▸hn;refine go 9 ?_;refine a0b ?_;refine go 4 ?_;refine a0b ?_;refine a0a ?_;refine a0b ?_;exact a3G (_) (_) ⟨(by simp only[a1P,p26,p34,p40,p54,p70,p75,if_true,if_false];first|exact .nil|exact .one rfl|exact .cons rfl (.one rfl)),(by simp[a5M,p26,p34,p40,p54,p70,p75,h75]<;>assumption)⟩ sb (by simp only[a1P,a6c,p26,p34,p40,p54,p70,p75,if_true,if_false];rfl) rfl
       ·refine go 3 ?_;refine a0c ?_;refine a0a ?_;refine a0b ?_;exact a3G (_) (_) ⟨(by simp only[a1P,p26,p34,p40,p54,p70,if_true,if_false];first|exact .nil|exact .one rfl|exact .cons rfl (.one rfl)),(by simp[a5M,p26,p34,p40,p54,p70,h26,h34,h40,h54,h70]<;>assumption)⟩ sb (by simp only[a1P,a6c,p26,p34,p40,p54,p70,if_true,if_false];rfl) rfl
   ·intro v3 xs ⟨hF,hO⟩;refine go 4 ?_;refine o_v rfl (a5F T.eqg_72 (b1O (a6c e) d3d) rfl rfl) ?_;refine gS 1 106 (fun h106 p106=>?_) fun h106 p106=>?_
    ·refine go 2 ?_;refine a0z rfl rfl h106 (a9S m0 rfl rfl (hF) (fun I2 hI2 hR=>a6P I2 _ _ hR _ [] (fun s=>!a2j s) (fun x hx vs hr=>by cases hr;exact c3Z I2 x (c4L hs hx))) rfl rfl ?_);refine go 7 ?_;exact q_v (congrArg Value.bool (by simp only[a1t,h26,hO,h106,bS]))
    ·refine go 9 ?_;exact q_v (congrArg Value.bool (by simp only[a1t,h26,hO,h106,bS]))
theorem c8a (I:IMap) (e:Evt) (hs:SmE e) :
    FnI prog 185 #[.agg e.cells.toArray] I (fun u J=>RdS J u (a1H e)):=by
 refine enter func185 call185 rfl ntmps185 rfl fun w0=>?_;refine go 4 fun g1=>?_
 refine go 9 ?_;refine cV (b4J _ e hs) ?_;refine gC 4 (fun h3 p3=>?_) fun h3 p3=>?_
 ·refine go 9 ?_;exact q_i (by simp only[a1H,show a1t e=false by simpa using h3,if_true];exact RdS.nil')
 ·refine gC 8 (fun h7 p7=>?_) fun h7 p7=>?_
  ·refine go 6 ?_;refine o_v rfl (c7h rfl rfl) ?_;refine go 4 ?_;refine o_v rfl (c7g rfl rfl) ?_;refine go 2 fun v21=>?_
   refine a0d (l:=[d3l e.part e.into,d3k e.part e.into]) rfl rfl (.cons rfl (.one rfl)) fun I21 j21 R21=>?_;refine go 7 ?_;exact q_i (by simp only[a1H,p3,p7,if_true,if_false,Bool.true_eq_false];exact R21)
  ·refine go 9 fun v24=>?_
   refine a0d (l:=[e.part]) rfl rfl (.one rfl) fun I24 j24 R24=>?_;refine go 5 ?_;exact q_i (by simp only[a1H,p3,p7,if_true,if_false,Bool.true_eq_false];exact R24)
theorem c5A (I:IMap) (e:Evt) :
    FnV prog 106 #[.agg e.cells.toArray] I (.bool (a6g e)):=by
 refine enter func106 call106 rfl ntmps106 rfl fun w0=>?_;refine go 4 fun g1=>?_
 refine gS 10 7 (fun h7 p7=>?_) fun h7 p7=>?_
 ·refine gS 6 13 (fun h13 p13=>?_) fun h13 p13=>?_
  ·refine gS 6 19 (fun h19 p19=>?_) fun h19 p19=>?_
   ·refine gS 6 25 (fun h25 p25=>?_) fun h25 p25=>?_
    ·refine gS 6 31 (fun h31 p31=>?_) fun h31 p31=>?_
     ·refine go 10 ?_;exact q_v (congrArg Value.bool (by simp only[a6g,h7,h13,h19,h25,h31,bS]))
     ·refine go 10 ?_;exact q_v (congrArg Value.bool (by simp only[a6g,h7,h13,h19,h25,h31,bS]))
    ·refine go 16 ?_;exact q_v (congrArg Value.bool (by simp only[a6g,h7,h13,h19,h25,bS]))
   ·refine go 22 ?_;exact q_v (congrArg Value.bool (by simp only[a6g,h7,h13,h19,bS]))
  ·refine go 28 ?_;exact q_v (congrArg Value.bool (by simp only[a6g,h7,h13,bS]))
 ·refine go 34 ?_;exact q_v (congrArg Value.bool (by simp only[a6g,h7,bS]))
theorem c9m (I:IMap) (v:Value) (l:List Evt) (hv:RdS I v l) (n:Int) :
    FnV prog 71 #[v,.int .i64 n] I (.bool (c4e l n)):=by
 obtain⟨A,c0,rfl,hA,hc,hm⟩:=hv;refine enter func71 call71 rfl ntmps71 rfl fun w0=>?_;refine go 12 ?_
 refine a0w (α:=Nat) 0 (fun i=>I)
  (fun i=>[(0,.slice A l.length c0),(1,.int .i64 n),(5,.int .i64 (i:Int))])
  (fun i=>[])
  (fun i=>i≤l.length∧a2m (fun _ e=>a6g e) l i=true)
  (fun i=>l.length-i) ⟨Nat.zero_le _,rfl⟩ rfl sb rfl ?_
 intro i ⟨hi,hn⟩;refine gS 8 10 (fun h10 p10=>?_) fun h10 p10=>?_
 ·have hlt:i<l.length:=oM;refine gC 6 (fun h14 p14=>?_) fun h14 p14=>?_
  ·have hlt:i<l.length:=oM;refine go 8 ?_;obtain⟨b19,o19,w19,e19,c19,r19⟩:=RdA.at_ hA (i:=i) hlt;obtain rfl:=r19;refine go 3 ?_;refine cV (c5A _ _) ?_;refine gC 3 (fun h22 p22=>?_) fun h22 p22=>?_
   ·refine go 12 ?_;exact q_v (congrArg Value.bool (by simp only[c4e,a0R (f:=fun _ e=>a6g e) hlt (by simpa using h22),bS]))
   ·refine go 9 ?_;exact a0s (i+1) ⟨oM,a0T hn hlt (by simpa using h22)⟩ oM rfl sb rfl
  ·refine go 16 ?_;exact q_v (congrArg Value.bool (by rw[c4e,show decide (((l.length:Nat):Int)≤n)=false from decide_eq_false oM];simp))
 ·refine go 23 ?_;have e:i=l.length:=oM;subst e;exact q_v (congrArg Value.bool (by simp only[c4e,hn,bS]))
end Go.Proofs.YtkndpfncklhhlaaGreat
