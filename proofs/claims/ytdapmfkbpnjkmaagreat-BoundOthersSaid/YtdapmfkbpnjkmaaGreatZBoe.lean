
import Derived.Test.YtdapmfkbpnjkmaaGreatZBod
import Derived.Laws.Bits64b
import Derived.Lib.Mul64
import Derived.Maps.RangeRun
set_option linter.all false
namespace Go.Sx
open Go
def up (F:List Nat) (i:Nat):Nat:=F.getD i i
def rt (F:List Nat) (i:Nat):Nat:=if h:up F i<i then rt F (up F i) else i
termination_by i
section
variable {F G:List Nat} {i j x:Nat}
theorem a3O (h:up F i<i):rt F i=rt F (up F i):=by rw[rt,dif_pos h]
theorem a3E (h:¬up F i<i):rt F i=i:=by rw[rt,dif_neg h]
theorem c8c (F:List Nat) (i:Nat):rt F i≤i:=by
 induction i using Nat.strongRecOn with
 |ind i ih=>
  by_cases h:up F i<i
  ·rw[a3O h];exact Nat.le_trans (ih _ h) (Nat.le_of_lt h)
  ·rw[a3E h];exact Nat.le_refl _
theorem b5C (F:List Nat) (i:Nat):¬up F (rt F i)<rt F i:=by
 induction i using Nat.strongRecOn with
 |ind i ih=>
  by_cases h:up F i<i
  ·rw[a3O h];exact ih _ h
  ·rw[a3E h];exact h
theorem b5B (F:List Nat) (i:Nat):rt F (rt F i)=rt F i:=a3E (b5C F i)
theorem c4z (h:∀j,up F j=up G j) (i:Nat):rt F i=rt G i:=by
 induction i using Nat.strongRecOn with
 |ind i ih=>
  by_cases h1:up F i<i
  ·rw[a3O h1,a3O (F:=G) (by rw[←h];exact h1),←h i];exact ih _ h1
  ·rw[a3E h1,a3E (F:=G) (by rw[←h];exact h1)]
def Fst (F:List Nat):Prop:=∀i,up F i≤i
theorem c8x (hi:i<F.length):up F i=F[i]:=by simp[up,List.getD,hi]
theorem b1w (hi:i<F.length):up (F.set i x) j=if j=i then x else up F j:=by
 unfold up List.getD;rw[List.getElem?_set]
 by_cases h:i=j
 ·subst h;simp[hi]
 ·have h2:¬j=i:=fun e=>h e.symm
  simp[h,h2]
theorem Fst.half (h:Fst F) (hi:i<F.length):Fst (F.set i (up F (up F i)))∧∀j,rt (F.set i (up F (up F i))) j=rt F j:=by
 refine⟨fun j=>?_,fun j=>?_⟩
 ·rw[b1w hi]
  split
  ·rename_i e;subst e;exact Nat.le_trans (h _) (h _)
  ·exact h j
 ·induction j using Nat.strongRecOn with
  |ind j ih=>
   by_cases e:j=i
   ·subst e
    have e1:up (F.set j (up F (up F j))) j=up F (up F j):=by rw[b1w hi,if_pos rfl]
    by_cases h1:up F j<j
    ·have h2:up F (up F j)<j:=Nat.lt_of_le_of_lt (h _) h1
     rw[a3O (by rw[e1];exact h2),e1,ih _ h2,a3O h1]
     by_cases h3:up F (up F j)<up F j
     ·rw[a3O h3]
     ·have h4:up F (up F j)=up F j:=Nat.le_antisymm (h _) (Nat.not_lt.1 h3)
      rw[h4]
    ·have h4:up F j=j:=Nat.le_antisymm (h _) (Nat.not_lt.1 h1)
     rw[a3E h1,a3E (by rw[e1,h4,h4];exact Nat.lt_irrefl _)]
   ·have e1:up (F.set i (up F (up F i))) j=up F j:=by rw[b1w hi,if_neg e]
    by_cases h1:up F j<j
    ·rw[a3O (by rw[e1];exact h1),e1,ih _ h1,a3O h1]
    ·rw[a3E h1,a3E (by rw[e1];exact h1)]
theorem Fst.join {a b:Nat} (h:Fst F) (ha:rt F a=a) (hb:rt F b=b) (hab:a≤b) (hl:b<F.length):Fst (F.set b a)∧∀j,rt (F.set b a) j=if rt F j=b then a else rt F j:=by
 have ua:¬up F a<a:=by have:=b5C F a;rwa[ha]at this
 have ub:¬up F b<b:=by have:=b5C F b;rwa[hb]at this
 refine⟨fun j=>?_,fun j=>?_⟩
 ·rw[b1w hl]
  split
  ·omega
  ·exact h j
 ·induction j using Nat.strongRecOn with
  |ind j ih=>
   by_cases e:j=b
   ·subst e
    have e1:up (F.set j a) j=a:=by rw[b1w hl,if_pos rfl]
    by_cases h1:a<j
    ·rw[a3O (by rw[e1];exact h1),e1,ih _ h1,ha,hb,if_pos rfl,if_neg (by omega)]
    ·have:a=j:=by omega
     subst this;rw[a3E (by rw[e1];exact h1),ha,if_pos rfl]
   ·have e1:up (F.set b a) j=up F j:=by rw[b1w hl,if_neg e]
    by_cases h1:up F j<j
    ·rw[a3O (by rw[e1];exact h1),e1,ih _ h1,←a3O h1]
    ·rw[a3E h1,a3E (by rw[e1];exact h1),if_neg e]
theorem Fst.meet {a b:Nat} (h:Fst F) (ha:rt F a=a) (hb:rt F b=b) (hla:a<F.length) (hlb:b<F.length):Fst (F.set (max a b) (min a b))∧∀j,rt (F.set (max a b) (min a b)) j=if rt F j=a∨rt F j=b then min a b else rt F j:=by
 rcases Nat.le_total a b with hab|hab
 ·rw[Nat.max_eq_right hab,Nat.min_eq_left hab];obtain⟨h1,h2⟩:=h.join ha hb hab hlb;refine⟨h1,fun j=>?_⟩;rw[h2 j]
  by_cases e1:rt F j=b
  ·rw[if_pos e1,if_pos (.inr e1)]
  ·by_cases e2:rt F j=a
   ·rw[if_neg e1,if_pos (.inl e2),e2]
   ·rw[if_neg e1,if_neg (by rintro (h|h)<;>contradiction)]
 ·rw[Nat.max_eq_left hab,Nat.min_eq_right hab];obtain⟨h1,h2⟩:=h.join hb ha hab hla;refine⟨h1,fun j=>?_⟩;rw[h2 j]
  by_cases e1:rt F j=a
  ·rw[if_pos e1,if_pos (.inl e1)]
  ·by_cases e2:rt F j=b
   ·rw[if_neg e1,if_pos (.inr e2),e2]
   ·rw[if_neg e1,if_neg (by rintro (h|h)<;>contradiction)]
theorem c1R (F:List Nat) (j:Nat):up (F++[F.length]) j=up F j:=by
 unfold up List.getD
 rcases Nat.lt_or_ge j F.length with h|h
 ·rw[List.getElem?_append_left h]
 ·rw[List.getElem?_append_right h,List.getElem?_eq_none h]
  rcases Nat.eq_or_lt_of_le h with e|h2
  ·subst e;simp
  ·rw[List.getElem?_eq_none (by simp;omega)]
theorem Fst.snoc (h:Fst F):Fst (F++[F.length]):=fun j=>by rw[c1R];exact h j
theorem b5D (F:List Nat) (j:Nat):rt (F++[F.length]) j=rt F j:=c4z (c1R F) j
theorem d0z (h:F.length≤i):rt F i=i:=a3E (by unfold up List.getD;rw[List.getElem?_eq_none h];simp)
end
def nm (r:Rep) (z:ByteArray):Prop:=a0t r=true∧∃e∈r.options,z∈a0Z e
theorem c0V {r:Rep} {ns:List ByteArray} (hn:a5A r ns) (z:ByteArray):z∈ns↔nm r z:=by
 rw[hn.1 z]
 constructor
 ·rintro⟨hv,e,he,h⟩;exact⟨hv,e,he,(b6M (a3b hv e he) z).1 h⟩
 ·rintro⟨hv,e,he,h⟩;exact⟨hv,e,he,(b6M (a3b hv e he) z).2 h⟩
inductive Lnk (l:List Rep):Nat→Nat→Prop
 |refl (i:Nat):Lnk l i i
 |one {i k:Nat} {z:ByteArray} (hi:i<l.length) (hk:k<l.length) (h1:nm l[i] z) (h2:nm l[k] z):Lnk l i k
 |symm {i k:Nat}:Lnk l i k→Lnk l k i
 |trans {i k m:Nat}:Lnk l i k→Lnk l k m→Lnk l i m
structure Rts (l:List Rep) (R:Nat→Nat):Prop where
 le:∀i,R i≤i
 idem:∀i,R (R i)=R i
 share:∀{i k:Nat} {z:ByteArray} (hi:i<l.length) (hk:k<l.length),nm l[i] z→nm l[k] z→R i=R k
 sound:∀i,Lnk l i (R i)
theorem Rts.lnk {l:List Rep} {R:Nat→Nat} (h:Rts l R) {i k:Nat} (hl:Lnk l i k):R i=R k:=by
 induction hl with
 |refl=>rfl
 |one hi hk h1 h2=>exact h.share hi hk h1 h2
 |symm _ ih=>exact ih.symm
 |trans _ _ h1 h2=>exact h1.trans h2
theorem Rts.uniq {l:List Rep} {R R':Nat→Nat} (h:Rts l R) (h':Rts l R'):R=R':=by
 funext i
 have h1:=h'.lnk (h.sound i)
 have h2:=h.lnk (h'.sound i)
 have h3:=h'.le (R i)
 have h4:=h.le (R' i)
 omega
theorem c3G {p:Nat→Prop}:∀n,p n→∃m,p m∧m≤n∧∀k,p k→m≤k:=by
 intro n
 induction n using Nat.strongRecOn with
 |ind n ih=>
  intro hn
  by_cases h:∃k,k<n∧p k
  ·obtain⟨k,hk,hp⟩:=h;obtain⟨m,h1,h2,h3⟩:=ih k hk hp;exact⟨m,h1,by omega,h3⟩
  ·exact⟨n,hn,Nat.le_refl _,fun k hk=>Nat.le_of_not_lt fun h2=>h ⟨k,h2,hk⟩⟩
theorem a9g (l:List Rep):∃R,Rts l R:=by
 have h:∀i,∃m,Lnk l i m∧m≤i∧∀k,Lnk l i k→m≤k:=fun i=>c3G i (.refl i)
 refine⟨fun i=>Classical.choose (h i),?_⟩
 have hs:=fun i=>(Classical.choose_spec (h i)).1
 have hle:=fun i=>(Classical.choose_spec (h i)).2.1
 have hm:=fun i=>(Classical.choose_spec (h i)).2.2
 have key:∀i k,Lnk l i k→Classical.choose (h i)=Classical.choose (h k):=fun i k hl=>by
  have h1:=hm i _ (hl.trans (hs k))
  have h2:=hm k _ (hl.symm.trans (hs i))
  omega
 exact⟨hle,fun i=>(key _ _ (hs i)).symm,fun hi hk h1 h2=>key _ _ (.one hi hk h1 h2),hs⟩
structure Lkd (l:List Rep) (n:Nat) (S:Nat→ByteArray→Prop) (F:List Nat) (fm:ByteArray→Option Nat):Prop where
 fst:Fst F
 len:F.length=n
 nl:n≤l.length
 lt:∀k z,S k z→k<n
 seen:∀k z,S k z→∃q,fm z=some q∧rt F q=rt F k
 own:∀z q,fm z=some q→q<n∧∃h:q<l.length,nm l[q] z
 sound:∀k,Lnk l k (rt F k)
section
variable {l:List Rep} {n i:Nat} {S S':Nat→ByteArray→Prop} {F F':List Nat} {fm:ByteArray→Option Nat} {z:ByteArray}
theorem Lkd.start:Lkd l 0 (fun _ _=>False) [] (fun _=>none):=
 ⟨fun i=>by simp[up],rfl,Nat.zero_le _,fun _ _ h=>h.elim,fun _ _ h=>h.elim,fun _ _ h=>by simp at h,fun k=>by rw[d0z (by simp)];exact .refl k⟩
theorem Lkd.congr (h:Lkd l n S F fm) (hS:∀k z,S' k z→S k z):Lkd l n S' F fm:=
 ⟨h.fst,h.len,h.nl,fun k z q=>h.lt k z (hS k z q),fun k z q=>h.seen k z (hS k z q),h.own,h.sound⟩
theorem Lkd.push (h:Lkd l n S F fm) (hn:n<l.length):Lkd l (n+1) S (F++[n]) fm:=by
 obtain rfl:=h.len;refine⟨h.fst.snoc,by simp,hn,fun k z q=>by have:=h.lt k z q;omega,fun k z q=>?_,fun z q hq=>?_,fun k=>by rw[b5D];exact h.sound k⟩
 ·obtain⟨m,h1,h2⟩:=h.seen k z q;exact⟨m,h1,by rw[b5D,b5D];exact h2⟩
 ·obtain⟨h1,h2⟩:=h.own z q hq;exact⟨by omega,h2⟩
theorem Lkd.same (h:Lkd l n S F fm) (hf:Fst F') (hl:F'.length=F.length) (hr:∀j,rt F' j=rt F j):Lkd l n S F' fm:=
 ⟨hf,hl.trans h.len,h.nl,h.lt,fun k z q=>by obtain⟨m,h1,h2⟩:=h.seen k z q;exact⟨m,h1,by rw[hr,hr];exact h2⟩,h.own,fun k=>by rw[hr];exact h.sound k⟩
theorem Lkd.hit {q:Nat} (h:Lkd l n S F fm) (hi:i<n) (hz:∃h:i<l.length,nm l[i] z) (hq:fm z=some q) (hf:Fst F') (hl:F'.length=F.length) (hr:∀j,rt F' j=if rt F j=rt F q∨rt F j=rt F i then min (rt F q) (rt F i) else rt F j) :
  Lkd l n (fun k y=>S k y∨k=i∧y=z) F' fm:=by
 have hc:∀a b,rt F a=rt F b→rt F' a=rt F' b:=fun a b e=>by rw[hr,hr,e]
 refine⟨hf,hl.trans h.len,h.nl,fun k y hk=>?_,fun k y hk=>?_,h.own,fun k=>?_⟩
 ·rcases hk with hk|⟨rfl,rfl⟩
  ·exact h.lt k y hk
  ·exact hi
 ·rcases hk with hk|⟨rfl,rfl⟩
  ·obtain⟨m,h1,h2⟩:=h.seen k y hk;exact⟨m,h1,hc _ _ h2⟩
  ·exact⟨q,hq,by rw[hr,hr,if_pos (.inl rfl),if_pos (.inr rfl)]⟩
 ·rw[hr];obtain⟨_,hql,hqz⟩:=h.own z q hq;obtain⟨hil,hiz⟩:=hz
  have hqi:Lnk l q i:=.one hql hil hqz hiz
  split
  ·rename_i e
   have h1:Lnk l k q:=by
    rcases e with e|e
    ·exact (h.sound k).trans (e▸(h.sound q).symm)
    ·exact ((h.sound k).trans (e▸(h.sound i).symm)).trans hqi.symm
   rcases Nat.le_total (rt F q) (rt F i) with h2|h2
   ·rw[Nat.min_eq_left h2];exact h1.trans (h.sound q)
   ·rw[Nat.min_eq_right h2];exact (h1.trans hqi).trans (h.sound i)
  ·exact h.sound k
theorem Lkd.new (h:Lkd l n S F fm) (hi:i<n) (hz:∃h:i<l.length,nm l[i] z) (hq:fm z=none):Lkd l n (fun k y=>S k y∨k=i∧y=z) F (fun y=>if z=y then some i else fm y):=by
 refine⟨h.fst,h.len,h.nl,fun k y hk=>?_,fun k y hk=>?_,fun y q hy=>?_,h.sound⟩
 ·rcases hk with hk|⟨rfl,rfl⟩
  ·exact h.lt k y hk
  ·exact hi
 ·rcases hk with hk|⟨rfl,rfl⟩
  ·obtain⟨m,h1,h2⟩:=h.seen k y hk;refine⟨m,?_,h2⟩
   show (if z=y then some i else fm y)=some m
   rw[if_neg (by rintro rfl;rw[hq]at h1;cases h1)];exact h1
  ·exact⟨k,by simp,rfl⟩
 ·split at hy
  ·rename_i e;subst e
   obtain rfl:=Option.some.inj hy;exact⟨hi,hz⟩
  ·exact h.own y q hy
theorem Lkd.done (h:Lkd l l.length S F fm) (hS:∀k z (hk:k<l.length),nm l[k] z→S k z):Rts l (rt F):=by
 refine⟨c8c F,b5B F,fun {i k z} hi hk h1 h2=>?_,h.sound⟩;obtain⟨q,e1,e2⟩:=h.seen i z (hS i z hi h1);obtain⟨q',e3,e4⟩:=h.seen k z (hS k z hk h2);rw[e1]at e3
 obtain rfl:=Option.some.inj e3;exact e2.symm.trans e4
end
def a0V (R:Nat→Nat) (n:Nat):List Nat:=(List.range n).filter fun i=>decide (R i=i)
def a0S (R:Nat→Nat) (n r:Nat):List Nat:=(List.range n).filter fun k=>decide (R k=r)
def a5S (R:Nat→Nat) (n:Nat):List (List Nat):=(a0V R n).map (a0S R n)
section
variable {R:Nat→Nat} {n r k:Nat}
theorem a9L:k∈a0V R n↔k<n∧R k=k:=by simp[a0V]
theorem a3R:k∈a0S R n r↔k<n∧R k=r:=by simp[a0S]
theorem b1o:a0V R (n+1)=if R n=n then a0V R n++[n] else a0V R n:=by
 unfold a0V;rw[List.range_succ,List.filter_append]
 by_cases h:R n=n<;>simp[h]
theorem a5q:a0S R (n+1) r=if R n=r then a0S R n r++[n] else a0S R n r:=by
 unfold a0S;rw[List.range_succ,List.filter_append]
 by_cases h:R n=r<;>simp[h]
theorem b5z:(a0V R n).Nodup:=List.nodup_range.filter _
theorem b9I:(a5S R n).length=(a0V R n).length:=by simp[a5S]
end
end Go.Sx
set_option linter.all false
namespace Go.Sx
open Go
theorem Fst.rt_up {F:List Nat} (h:Fst F) (i:Nat):rt F (up F i)=rt F i:=by
 by_cases h1:up F i<i
 ·rw[a3O h1]
 ·rw[show up F i=i from Nat.le_antisymm (h i) (Nat.not_lt.1 h1)]
def a5j (F:List Nat):List (List Value):=F.map fun (x:Nat)=>[ci (x:Int)]
def nI (F:List Nat):List Int:=F.map fun (x:Nat)=>(x:Int)
section
variable {F:List Nat} {rest:List (List Value)} {i x:Nat}
theorem a2h (F:List Nat):Uk 1 (a5j F):=fun c hc=>by obtain⟨x,_,rfl⟩:=List.mem_map.1 hc;rfl
theorem a3S (F:List Nat):(a5j F).length=F.length:=by simp[a5j]
theorem b2h (h:i<F.length):(a5j F++rest)[i]? = some [ci ((F[i]:Nat):Int)]:=by
 rw[List.getElem?_append_left (by rw[a3S];exact h)];simp[a5j,h]
theorem b6N (h:i<F.length) (x:Nat):(a5j F++rest).set i [ci (x:Int)]=a5j (F.set i x)++rest:=by
 rw[List.set_append_left _ _ (by rw[a3S];exact h)];simp[a5j,List.map_set]
theorem b3A (F:List Nat) (x:Nat):(a5j F).flatten++[ci (x:Int)]=(a5j (F++[x])).flatten:=by simp[a5j]
theorem a4X (F:List Nat):(nI F).length=F.length:=by simp[nI]
theorem c7y (h:i<F.length) (h2:i<(nI F).length):(nI F)[i]=(F[i]:Nat):=by simp[nI]
theorem c0S {I:IMap} (F:List Nat):Flat I (a5j F).flatten (nI F):=by
 induction F with
 |nil=>exact .nil
 |cons x F ih=>exact .cons (vs:=[ci (x:Int)]) rfl ih
end
section
variable {P:Program} {n:Sz} {E:Ent} {I:IMap} {L:LL} {H:List Res} {K:Act→World→Prop} {α:Type} {f:α→Res} {l:List α} {k:Nat} {a b c d e:Res}
end
abbrev Lst:=Value×List Nat
section
variable {P:Program} {n:Sz} {E:Ent} {I:IMap} {L:LL} {H:List Res} {K:Act→World→Prop} {e:Nat}
end
section
variable {P:List Lst} {rest:List (List Value)} {k:Nat}
end
section
variable {n:Sz} {E:Ent} {I:IMap} {L:LL} {H:List Res} {K:Act→World→Prop} {e:Nat} {v:Value} {q:List Nat} {x:Nat}
end
section
variable {R:Nat→Nat} {i k r:Nat}
end
theorem c7v {kvs:List (ByteArray×Value)} {fm:ByteArray→Option Nat} (hM:∀z,a4W kvs z=(fm z).map fun (q:Nat)=>Value.int .i64 (q:Int)) (k:ByteArray) (i:Nat):∀z,a4W (a5N kvs k (.int .i64 (i:Int))) z=(if k=z then some i else fm z).map fun (q:Nat)=>Value.int .i64 (q:Int):=fun z=>by
 rw[a9N,hM z];split<;>rfl
theorem b6G {a:Prop} {k i j:Nat} {z:ByteArray} {ns:List ByteArray} (hj:j<ns.length) (h:a∨(k=i∧z∈ns.take (j+1))):(a∨(k=i∧z∈ns.take j))∨(k=i∧z=ns[j]):=by
 rcases h with h|⟨h1,h2⟩
 ·exact .inl (.inl h)
 ·rw[←a0q hj]at h2
  rcases List.mem_append.1 h2 with h2|h2
  ·exact .inl (.inr ⟨h1,h2⟩)
  ·exact .inr ⟨h1,List.mem_singleton.1 h2⟩
theorem c7t {l:List Rep} {i k:Nat} {z:ByteArray} {ns:List ByteArray} (hi:i<l.length) (hn:a5A l[i] ns) (h:k<i+1∧∃h:k<l.length,nm l[k] z):(k<i∧∃h:k<l.length,nm l[k] z)∨(k=i∧z∈ns):=by
 obtain⟨h1,h2,h3⟩:=h
 rcases Nat.lt_or_ge k i with h4|h4
 ·exact .inl ⟨h4,h2,h3⟩
 ·obtain rfl:k=i:=by omega
  exact .inr ⟨rfl,(c0V hn z).2 h3⟩
end Go.Sx
set_option linter.all false
namespace Go.Sx
open Go
def a1Y {α:Type} (l:List α) (C:List Nat):List α:=C.filterMap fun i=>l[i]?
section
variable {α:Type} {l:List α} {C:List Nat}
theorem a4A {i:Nat} (h:i<l.length) (C:List Nat):a1Y l (i::C)=l[i]::a1Y l C:=by
 simp[a1Y,List.filterMap_cons,h]
theorem a1W (h:∀i∈C,i<l.length):(a1Y l C).length=C.length:=by
 induction C with
 |nil=>rfl
 |cons i C ih=>rw[a4A (h i (by simp))];simp[ih fun k hk=>h k (by simp[hk])]
theorem c3Y (h:∀i∈C,i<l.length) {k:Nat} (hk:k<C.length):(a1Y l C)[k]? = some (l[C[k]]'(h _ (List.getElem_mem hk))):=by
 induction C generalizing k with
 |nil=>simp at hk
 |cons i C ih=>
  rw[a4A (h i (by simp))]
  cases k with
  |zero=>simp
  |succ k=>simpa using ih (fun k hk=>h k (by simp[hk])) (by simpa using hk)
theorem a5s (h:∀i∈C,i<l.length) {k:Nat} (hk:k<C.length) (h2:k<(a1Y l C).length):(a1Y l C)[k]=l[C[k]]'(h _ (List.getElem_mem hk)):=by
 have:=c3Y h hk
 rw[List.getElem?_eq_getElem h2]at this
 exact Option.some.inj this
theorem a9X {x:α} (h:x∈a1Y l C):x∈l:=by
 obtain⟨i,_,hi⟩:=List.mem_filterMap.1 h;exact List.mem_of_getElem? hi
theorem a8x (A B:List Nat):a1Y l (A++B)=a1Y l A++a1Y l B:=by simp[a1Y]
theorem a5H (l:List α):a1Y l (List.range l.length)=l:=by
 refine List.ext_getElem ?_ fun k h1 h2=>?_
 ·rw[a1W (fun i hi=>List.mem_range.1 hi),List.length_range]
 ·rw[a5s (fun i hi=>List.mem_range.1 hi) (by simpa using h2)];simp
end
def gE (d:Int) (l:List Rep) (t:List Int) (i:Nat):Option Evt:=(at2 (a4b d) l t i).join
theorem a8b {d:Int} {l:List Rep} {t:List Int} {C:List Nat} (hl:t.length=l.length) (h:∀i∈C,i<l.length):b0D d (a1Y l C) (a1Y t C)=C.filterMap (gE d l t):=by
 induction C with
 |nil=>rfl
 |cons i C ih=>
  have hi:=h i (by simp)
  rw[a4A hi,a4A (by omega),b0D,List.zip_cons_cons,List.filterMap_cons,List.filterMap_cons,gE,a2H hi (by omega)]
  have:=ih fun k hk=>h k (by simp[hk])
  rw[b0D]at this
  simp only[Option.join_some]
  rw[this]
theorem a9W {d:Int} {l:List Rep} {t:List Int} (hl:t.length=l.length):b0D d l t=(List.range l.length).filterMap (gE d l t):=by
 have:=a8b (d:=d) (l:=l) (t:=t) (C:=List.range l.length) hl fun i hi=>List.mem_range.1 hi
 rw[a5H]at this
 conv at this=>lhs;arg 3;rw[←hl,a5H]
 exact this
def okE (c:List Kind) (E:List Evt):Bool:=(a1F c [] (a1m E)).isSome
theorem c3Q {c:List Kind} {D:ByteArray→Bool} {E:List Evt} (hv:a0Y c=true) (hl:E.length<20000) (hE:∀e∈E,Dev D e∨Dev (fun n=>!D n) e):okE c E=(okE c (E.filter fun e=>D e.part)&&okE c (E.filter fun e=>!D e.part)):=by
 have hc:=a8B hv
 have hlen:(a1m E).length<20000:=by rw[a4c];exact hl
 unfold okE;rw[a8h (D:=D) _ [] [] [] (Spl.nil _) hc hc hc (by simpa using hlen) (by simpa using hlen) (by simpa using hlen) (fun e he=>hE e (a5w.1 he)),a5v (fun e:Evt=>D e.part),a5v (fun e:Evt=>!D e.part)]
theorem a7k {α β:Type} {f g:α→Option β}:∀{l:List α},(∀x∈l,f x=g x)→l.filterMap f=l.filterMap g
 | [],_=>rfl
 |x::l,h=>by rw[List.filterMap_cons,List.filterMap_cons,h x (by simp),a7k fun y hy=>h y (by simp[hy])]
theorem a8M {α:Type} {f g:α→Bool}:∀{l:List α},(∀x∈l,f x=g x)→l.all f=l.all g
 | [],_=>rfl
 |x::l,h=>by rw[List.all_cons,List.all_cons,h x (by simp),a8M fun y hy=>h y (by simp[hy])]
theorem c1c {c:List Kind} (D:Nat→ByteArray→Bool) (hv:a0Y c=true):∀(rs:List Nat) (E:List Evt),rs.Nodup→E.length<20000→(∀e∈E,∃r∈rs,Dev (D r) e∧∀r'∈rs,r'≠r→Dev (fun n=>!D r' n) e)→okE c E=rs.all fun r=>okE c (E.filter fun e=>D r e.part)
 | [],E,_,_,h=>by
  cases E with
  |nil=>rfl
  |cons e E=>obtain⟨r,hr,_⟩:=h e (by simp);cases hr
 |r::rs,E,hn,hl,h=>by
  have hn':=List.nodup_cons.1 hn
  rw[c3Q (D:=D r) hv hl (fun e he=>by
   obtain⟨q,hq,h1,h2⟩:=h e he
   by_cases e1:q=r
   ·subst e1;exact .inl h1
   ·exact .inr (h2 r (by simp) fun h=>e1 h.symm)),List.all_cons]
  congr 1
  rw[c1c D hv rs _ hn'.2 (Nat.lt_of_le_of_lt (List.length_filter_le _ _) hl) fun e he=>?_]
  ·refine a8M fun q hq=>?_
   rw[List.filter_filter]
   congr 1
   refine List.filter_congr fun e he=>?_
   cases hd:D q e.part with
   |false=>rfl
   |true=>
    obtain⟨q0,hq0,h1,h2⟩:=h e he
    have hne:r≠q0:=by
     rintro rfl
     have:=(h2 q (by simp[hq]) (fun e=>hn'.1 (e▸hq))).part
     simp[hd]at this
    have:=(h2 r (by simp) hne).part
    simpa using this
  ·obtain⟨he,hd⟩:=List.mem_filter.1 he;obtain⟨q,hq,h1,h2⟩:=h e he
   rcases List.mem_cons.1 hq with rfl|hq'
   ·have:=h1.part;simp[this]at hd
   ·exact⟨q,hq',h1,fun r' hr'=>h2 r' (by simp[hr'])⟩
def b7U (l:List Rep) (R:Nat→Nat) (r:Nat) (z:ByteArray):Bool:=(List.range l.length).any fun i=>decide (R i=r)&&((l[i]?).map fun q:Rep=>q.options.any fun e=>decide (z∈a0Z e)).getD false
section
variable {c:List Kind} {l:List Rep} {R:Nat→Nat} {t:List Int} {r:Nat}
theorem b4F {z:ByteArray}:b7U l R r z=true↔∃i,∃h:i<l.length,R i=r∧∃e∈l[i].options,z∈a0Z e:=by
 unfold b7U;rw[List.any_eq_true]
 constructor
 ·rintro⟨i,hi,h⟩
  have hi:=List.mem_range.1 hi
  rw[List.getElem?_eq_getElem hi]at h
  simp only[Bool.and_eq_true,decide_eq_true_eq,Option.map_some,Option.getD_some,List.any_eq_true]at h
  exact⟨i,hi,h.1,h.2⟩
 ·rintro⟨i,hi,h1,h2⟩;refine⟨i,List.mem_range.2 hi,?_⟩;rw[List.getElem?_eq_getElem hi]
  simp only[Bool.and_eq_true,decide_eq_true_eq,Option.map_some,Option.getD_some,List.any_eq_true]
  exact⟨h1,h2⟩
theorem a6M {n i:Nat} (h:i∈a0S R n r):i<n:=(a3R.1 h).1
theorem b0U {n:Nat}:(a0S R n r).Nodup:=List.nodup_range.filter _
theorem b1i (hc:a0Y c=true) (hp:∀q∈l,chs q≠0) (ht:t∈a2d l) {C:List Nat} (h:∀i∈C,i<l.length):a1Y t C∈a2d (a1Y l C):=by
 obtain⟨hl,hb⟩:=a3H.1 ht
 have h':∀i∈C,i<t.length:=fun i hi=>by rw[hl];exact h i hi
 refine a3H.2 ⟨by rw[a1W h,a1W h'],fun i h1 h2=>?_⟩
 have hi:i<C.length:=by rw[a1W h]at h1;exact h1
 rw[a5s h hi,a5s h' hi];exact hb _ (h _ (List.getElem_mem hi)) (h' _ (List.getElem_mem hi))
theorem c4b (hp:∀q∈l,chs q≠0) (C:List Nat):∀q∈a1Y l C,chs q≠0:=fun q hq=>hp q (a9X hq)
theorem a4Q {q:Rep} (h:chs q≠0):a0t q=true:=by
 cases hv:a0t q with
 |true=>rfl
 |false=>exact absurd (by simp[chs,hv]) h
theorem c0p (hR:Rts l R) (hc:a0Y c=true) (hp:∀q∈l,chs q≠0) (hl:l.length<20000) (ht:t∈a2d l):isF c l t=(a0V R l.length).all fun r=>isF c (a1Y l (a0S R l.length r)) (a1Y t (a0S R l.length r)):=by
 obtain⟨htl,hb⟩:=a3H.1 ht;rw[c3x ((a6U hc hp t).2 ht)]
 have h1:∀r∈a0V R l.length,isF c (a1Y l (a0S R l.length r)) (a1Y t (a0S R l.length r))=okE c ((a0S R l.length r).filterMap (gE 40001 l t)):=fun r _=>by
  rw[c3x ((a6U hc (c4b hp _) _).2 (b1i hc hp ht fun i hi=>a6M hi)),a8b htl fun i hi=>a6M hi];rfl
 rw[a8M h1]
 have hg:∀i e,gE 40001 l t i=some e→∃h:i<l.length,e∈l[i].options:=fun i e he=>by
  rcases Nat.lt_or_ge i l.length with hi|hi
  ·rw[gE,a2H hi (by omega)]at he
   exact⟨hi,a9c (by simpa using he)⟩
  ·rw[gE,at2,List.getElem?_eq_none hi]at he;simp at he
 have hcl:∀i e,gE 40001 l t i=some e→∀z∈a0Z e,∀r,b7U l R r z=decide (R i=r):=fun i e he z hz r=>by
  obtain⟨hi,hm⟩:=hg i e he;rw[Bool.eq_iff_iff,b4F,decide_eq_true_eq]
  constructor
  ·rintro⟨k,hk,rfl,f,hf,h2⟩;exact hR.share hi hk ⟨a4Q (hp _ (List.getElem_mem hi)),e,hm,hz⟩ ⟨a4Q (hp _ (List.getElem_mem hk)),f,hf,h2⟩
  ·rintro rfl;exact⟨i,hi,rfl,e,hm,hz⟩
 have hpart:∀e:Evt,e.part∈a0Z e:=fun e=>by unfold a0Z;split<;>simp
 show okE c (b0D 40001 l t)=_
 rw[a9W htl,c1c (b7U l R) hc (a0V R l.length) _ b5z (Nat.lt_of_le_of_lt (List.length_filterMap_le _ _) (by simpa using hl)) fun e he=>?_]
 ·refine a8M fun r _=>?_
  congr 1
  unfold a0S;rw[List.filter_filterMap,List.filterMap_filter];refine a7k fun i _=>?_
  cases hq:gE 40001 l t i with
  |none=>simp
  |some e=>
   have:=hcl i e hq e.part (hpart e) r
   simp[Option.filter_some,this]
 ·obtain⟨i,hi,he⟩:=List.mem_filterMap.1 he
  have hi:=List.mem_range.1 hi
  refine⟨R i,a9L.2 ⟨Nat.lt_of_le_of_lt (hR.le i) hi,hR.idem i⟩,fun z hz=>by rw[hcl i e he z hz];simp,fun r' _ hne z hz=>by
   show (!b7U l R r' z)=true
   rw[hcl i e he z hz];simpa using fun h=>hne h.symm⟩
end
end Go.Sx
set_option linter.all false
namespace Go.Sx
open Go
section
variable {c:List Kind} {l:List Rep} {R:Nat→Nat} {t:List Int} {r i n:Nat}
theorem b3E {α:Type} {l:List α} (h:l.Nodup) {a b:Nat} (ha:a<l.length) (hb:b<l.length) (e:l[a]=l[b]):a=b:=by
 rcases Nat.lt_trichotomy a b with h1|h1|h1
 ·exact absurd e (List.pairwise_iff_getElem.1 h a b ha hb h1)
 ·exact h1
 ·exact absurd e.symm (List.pairwise_iff_getElem.1 h b a hb ha h1)
theorem a5D (h:t∈a2O c l):t∈a2d l:=(List.mem_filter.1 h).1
theorem c0o (hR:Rts l R) (hc:a0Y c=true) (hp:∀q∈l,chs q≠0) (hl:l.length<20000) (ht:t∈a2O c l) (hr:r∈a0V R l.length):a1Y t (a0S R l.length r)∈a2O c (a1Y l (a0S R l.length r)):=by
 have h:=(a7n t).1 ht
 rw[c0p hR hc hp hl (a5D ht),List.all_eq_true]at h
 exact (a7n _).2 (h r hr)
end
end Go.Sx
namespace Go.Proofs.YtdapmfkbpnjkmaaGreat
open Go Go.Sx
set_option linter.all false
set_option maxRecDepth 20000
set_option maxHeartbeats 4000000
instance T.elt_121:Has (a8D Tryz.prog 121) (3,1):=⟨by kernel_rfl⟩
instance T.und_121:Has (Tryz.prog.underlying 121) (.slice 3):=⟨by kernel_rfl⟩
theorem a8Y (I:IMap) (g cap:Nat) (F:List Nat) (rest:List (List Value)) (hR:Uk 1 rest) (hF:Fst F) (i:Nat) (hi:i<F.length) :
    FnG Tryz.prog 70 #[.slice (some ⟨g,0,none⟩) F.length cap,.int .i64 ((i:Nat):Int)] I (.blk g 3 (a5j F++rest).flatten) (fun u J r=>∃G,u = .int .i64 ((rt F i:Nat):Int)∧r = .blk g 3 (a5j G++rest).flatten∧G.length=F.length∧Fst G∧∀q,rt G q=rt F q):=by
 refine enter Tryz.func70 Tryz.call70 rfl Tryz.ntmps70 rfl (fun w0=>?_);refine go 7 ?_
 refine a1w (i) (F) (fun j G=>I)
  (fun j G=>[(0,.slice (some ⟨g,0,none⟩) F.length cap),(1,.int .i64 ((j:Nat):Int))])
  (fun j G=>[.blk g 3 (a5j G++rest).flatten])
  (fun j G=>j<F.length∧G.length=F.length∧Fst G∧(∀q,rt G q=rt F q)∧rt F j=rt F i)
  (fun j G=>j) ⟨hi,rfl,hF,fun _=>rfl,rfl⟩ rfl sb rfl ?_
 intro j G ⟨hj,hG,hFG,hr,hje0⟩
 have hjG:j<G.length:=by omega
 have hup:up G j=G[j]:=c8x hjG
 have hle:G[j]≤j:=by rw[←hup];exact hFG j
 have hgG:G[j]<G.length:=by omega
 have hup2:up G (up G j)=G[G[j]]:=by rw[hup];exact c8x hgG
 have hle2:G[G[j]]≤G[j]:=by have:=hFG G[j];rw[c8x hgG]at this;exact this
 refine go 5 ?_;refine o_v rfl (a0n he rfl rfl rfl (j) (by omega) (by omega)) ?_;refine o_v rfl (a4w m0 (Uk.append (a2h _) hR) he rfl (j) (by omega) (b2h hjG)) ?_;refine go 4 ?_;refine cb rfl (fun h10 p10=>?_) (fun h10 p10=>?_)
 ·have hjne:G[j]<j:=by omega
  refine go 10 ?_;refine o_v rfl (a0n he rfl rfl rfl (j) (by omega) (by omega)) ?_;refine o_v rfl (a4w m0 (Uk.append (a2h _) hR) he rfl (j) (by omega) (b2h hjG)) ?_;refine o_v rfl (a0n he rfl rfl rfl (G[j]) (by omega) (by omega)) ?_;refine o_v rfl (a4w m0 (Uk.append (a2h _) hR) he rfl (G[j]) (by omega) (b2h hgG)) ?_;refine o_v rfl (a0n he rfl rfl rfl (j) (by omega) (by omega)) ?_;refine go 1 ?_;refine a2b _ (j) (Uk.append (a2h _) hR) he rfl rfl rfl rfl rfl (by omega) (by rw[List.length_append,a3S];omega) ?_;refine a2K (a5j (G.set j G[G[j]])++rest).flatten (by rw[b6N hjG]) ?_;refine go 5 ?_;refine o_v rfl (a0n he rfl rfl rfl (j) (by omega) (by omega)) ?_;refine o_v rfl (OV.cast (u:=.int .i64 ((G[G[j]]:Nat):Int)) (a4w m0 (Uk.append (a2h _) hR) he rfl (j) (by omega) (b2h (by simp;omega))) (congrArg (Value.int .i64) (by simp))) ?_;refine go 4 ?_;exact a0M (G[G[j]]) (G.set j G[G[j]]) ⟨by omega,by simp[hG],hup2▸(hFG.half hjG).1,fun q=>by rw[←hup2,(hFG.half hjG).2 q,hr q],by rw[←hje0,←hr,←hr j,←hup2,hFG.rt_up,hFG.rt_up]⟩ (by omega) rfl sb rfl
 ·have hje:rt F i=j:=by rw[←hje0,←hr j];exact a3E (by omega)
  refine go 12 ?_;refine a0x rfl rfl ?_;exact q_g ⟨G,by rw[hje],rfl,hG,hFG,hr⟩
theorem c3I (I:IMap) (g cap:Nat) (F:List Nat) (rest:List (List Value)) (hR:Uk 1 rest) (hF:Fst F) (a b:Nat) (ha:a<F.length) (hb:b<F.length) :
    FnG Tryz.prog 124 #[.slice (some ⟨g,0,none⟩) F.length cap,.int .i64 ((a:Nat):Int),.int .i64 ((b:Nat):Int)] I (.blk g 3 (a5j F++rest).flatten) (fun u J r=>∃G,u = .tuple #[]∧r = .blk g 3 (a5j G++rest).flatten∧G.length=F.length∧Fst G∧∀q,rt G q=if rt F q=rt F a∨rt F q=rt F b then min (rt F a) (rt F b) else rt F q):=by
 refine enter Tryz.func124 Tryz.call124 rfl Tryz.ntmps124 rfl (fun w0=>?_);refine go 5 ?_;refine a8a (a8Y _ g cap F rest hR hF a ha) rfl rfl (fun v10 I10 s10 j10 q10=>?_);obtain⟨G,rfl,rfl,hG,hFG,hr⟩:=q10;refine go 3 ?_;refine a8a (hG▸a8Y _ g cap G rest hR hFG b (by omega)) rfl rfl (fun v13 I13 s13 j13 q13=>?_);obtain⟨G2,rfl,rfl,hG2,hFG2,hr2⟩:=q13
 have hra:=c8c F a
 have hrb:=c8c F b
 rw[hr b]
 have hmx:max (rt F a) (rt F b)<G2.length:=by omega
 refine go 8 ?_;refine o_v rfl (OV.cast (u:=.int .i64 ((max (rt F a) (rt F b):Nat):Int)) (c8F rfl rfl) (congrArg (Value.int .i64) (by split<;>omega))) ?_;refine go 2 ?_;refine o_v rfl (OV.cast (u:=.int .i64 ((min (rt F a) (rt F b):Nat):Int)) (d0M rfl rfl) (congrArg (Value.int .i64) (by split<;>omega))) ?_;refine o_v rfl (a0n he rfl rfl rfl (max (rt F a) (rt F b)) (by omega) (by omega)) ?_;refine go 1 ?_;refine a2b _ (max (rt F a) (rt F b)) (Uk.append (a2h _) hR) he rfl rfl rfl rfl rfl (by omega) (by rw[List.length_append,a3S];omega) ?_;refine a2K (a5j (G2.set (max (rt F a) (rt F b)) (min (rt F a) (rt F b)))++rest).flatten (by rw[b6N hmx]) ?_;refine go 1 ?_;refine a4y rfl ?_
 have hid:∀q,rt G2 q=rt F q:=fun q=>(hr2 q).trans (hr q)
 obtain⟨m1,m2⟩:=hFG2.meet (a:=rt F a) (b:=rt F b) (by rw[hid,b5B]) (by rw[hid,b5B]) (by omega) (by omega);exact q_g ⟨_,rfl,rfl,by simp;omega,m1,fun q=>by rw[m2 q,hid q]⟩
theorem b8t (I:IMap) (v:Value) (l:List Rep) (hv:RdS I v l) (hl:l.length≤1000000) (hsl:∀r∈l,∀e∈r.options,SmE e)  :
    FnH Tryz.prog 69 #[v] I [] (fun u J H2=>∃w m F kvs fm,u = .tuple #[w,.map (some m)]∧H2=[.row w 3 1 F.length (a5j F).flatten,.mp m (a2t Value.string kvs)]∧Lkd l l.length (fun k z=>∃h:k<l.length,nm l[k] z) F fm∧(∀z,a4W kvs z=(fm z).map fun (q:Nat)=>Value.int .i64 (q:Int))):=by
 have hv0:=hv
 obtain⟨A,c0,rfl,hA,hc,hm⟩:=hv;refine enter Tryz.func69 Tryz.call69 rfl Tryz.ntmps69 rfl (fun w0=>?_);refine go 8 ?_;refine a1s 3 1 ?_;refine go 6 ?_;refine a7v (Value.string) he rfl (fun r11=>?_);refine go 12 ?_;refine a0g ?_
 refine c6k ((0:Nat)) (_) ([]) ([]) ((fun _=>none)) (I) (fun i v4 F kvs fm J=>J)
  (fun i v4 F kvs fm J=>[(0,.slice A l.length c0),(5,.map (some r11)),(13,.int .i64 ((l.length:Nat):Int)),(14,.int .i64 ((i:Nat):Int)),(4,v4)])
  (fun i v4 F kvs fm J=>[.row v4 3 1 F.length (a5j F).flatten,.mp r11 (a2t Value.string kvs)])
  (fun i v4 F kvs fm J=>i≤l.length∧ILe I J∧Lkd l i (fun k z=>k<i∧∃h:k<l.length,nm l[k] z) F fm∧(∀z,a4W kvs z=(fm z).map fun (q:Nat)=>Value.int .i64 (q:Int)))
  (fun i v4 F kvs fm J=>l.length-i) ⟨Nat.zero_le _,ILe.refl _,Lkd.start.congr (fun k z h=>absurd h.1 (Nat.not_lt_zero k)),fun z=>rfl⟩ rfl sb rfl ?_
 intro i v4 F kvs fm J ⟨hi,hJ,hK,hM⟩
 have hlF:=hK.len
 have hv0:=hv0.le hJ
 have hA:=hA.le hJ
 refine go 6 ?_;refine cb rfl (fun h15 p15=>?_) (fun h15 p15=>?_)
 ·have hlt:i<l.length:=by omega
  refine go 15 ?_;refine a0e he he rfl rfl rfl rfl rfl rfl rfl (fun v19=>?_);refine go 1 ?_;refine a0g ?_;refine a1r he he rfl rfl rfl rfl rfl (by omega) (by omega) rfl (fun v20=>?_);refine go 5 ?_;refine b7B (ys:=(a5j (F++[i])).flatten) (show _=_ from b3A F i) ?_;refine a8z (a2h (F++[i])) (by simp[a3S]) (fun h0 _=>by omega) (fun g21 cap21 rest21 hv21 hR21 hcap21 hmax21=>?_);subst hv21;refine go 2 ?_;obtain⟨b23,o23,w23,e23,c23,r23⟩:=RdA.at_ hA (i:=i) (by omega);obtain⟨q23,rfl,S23,d23,rfl,hS23,hd23,hm23⟩:=r23;refine o_v rfl (a0n he rfl rfl e23 (i) (by omega) (by omega)) ?_;refine o_v rfl (a0H he rfl c23 rfl) ?_;refine go 1 ?_;refine a0F (c4s _ l[i] S23 d23 ⟨_,_,rfl,hS23,hd23,hm23⟩ (hsl _ (List.getElem_mem hlt))) rfl rfl (fun v25 I25 j25 q25=>?_)
  try have hv0:=hv0.le j25
  try have hA:=hA.le j25
  try have hNA:=hNA.le j25
  obtain⟨ns,hns,hno⟩:=q25;obtain⟨NA,nc,rfl,hNA,_,_⟩:=hns
  have hnl:=hno.2
  refine go 5 ?_;refine a0g ?_;refine a0b ?_
  refine b1O ((0:Nat)) ((F++[i])) (kvs) (fm) (_) (fun j G kvs2 fm2 J2=>J2)
   (fun j G kvs2 fm2 J2=>[(0,.slice A l.length c0),(5,.map (some r11)),(13,.int .i64 ((l.length:Nat):Int)),(14,.int .i64 ((i:Nat):Int)),(4,.slice (some ⟨g21,0,none⟩) (F.length+1) cap21),(6,.int .i64 ((i:Nat):Int)),(25,.slice NA ns.length nc),(26,.int .i64 ((ns.length:Nat):Int)),(27,.int .i64 ((j:Nat):Int))])
   (fun j G kvs2 fm2 J2=>[.blk g21 3 (a5j G++rest21).flatten,.mp r11 (a2t Value.string kvs2)])
   (fun j G kvs2 fm2 J2=>j≤ns.length∧ILe I25 J2∧Lkd l (i+1) (fun k z=>(k<i∧∃h:k<l.length,nm l[k] z)∨(k=i∧z∈ns.take j)) G fm2∧(∀z,a4W kvs2 z=(fm2 z).map fun (q:Nat)=>Value.int .i64 (q:Int)))
   (fun j G kvs2 fm2 J2=>ns.length-j) ⟨Nat.zero_le _,ILe.refl _,(hK.push hlt).congr (fun k z h=>h.elim id fun h=>by simp at h),hM⟩ rfl sb rfl ?_
  intro j G kvs2 fm2 J2 ⟨hj,hJ2,hK2,hM2⟩
  have hGl:G.length=F.length+1:=by rw[hK2.len,hlF]
  have hG1:=hK2.len
  have hv0:=hv0.le hJ2
  have hA:=hA.le hJ2
  have hNA:=hNA.le hJ2
  refine go 6 ?_;refine cb rfl (fun h28 p28=>?_) (fun h28 p28=>?_)
  ·have hlj:j<ns.length:=by omega
   refine go 6 ?_;obtain⟨b29,o29,w29,e29,c29,r29⟩:=RdA.at_ hNA (i:=j) (by omega);obtain rfl:=r29;refine o_v rfl (a0n he rfl rfl e29 (j) (by omega) (by omega)) ?_;refine o_v rfl (a0W he rfl (c29 0 _ rfl)) ?_;refine go 7 ?_;refine o_v rfl (a8A m1 (a0R he) he he (ns[j]) rfl rfl rfl rfl) ?_;refine go 12 ?_;refine cb rfl (fun h37 p37=>?_) (fun h37 p37=>?_)
   ·obtain⟨q,hq⟩:∃q,fm2 ns[j]=some q:=by
      rw[hM2]at h37
      cases hq:fm2 ns[j]with
      |none=>rw[hq]at h37;cases h37
      |some q=>exact⟨q,rfl⟩
    have hmg:(a4W kvs2 ns[j]).getD (.int .i64 0) = .int .i64 (q:Int):=by rw[hM2,hq];rfl
    rw[hmg]
    have hq1:=(hK2.own _ q hq).1
    refine go 5 ?_;refine a8a (hGl▸c3I _ g21 cap21 G rest21 hR21 hK2.fst q i (by omega) (by omega)) rfl rfl (fun v41 I41 s41 j41 q41=>?_)
    try have hv0:=hv0.le j41
    try have hA:=hA.le j41
    try have hNA:=hNA.le j41
    obtain⟨G2,rfl,rfl,hG2,hFG2,hr2⟩:=q41;refine go 8 ?_;exact a6P (j+1) (G2) (kvs2) (fm2) (_) ⟨by omega,hJ2.trans j41,(hK2.hit (by omega) ⟨hlt,(c0V hno _).1 (List.getElem_mem hlj)⟩ hq hFG2 (hG2.trans hGl.symm) hr2).congr fun k z h=>b6G hlj h,hM2⟩ (by omega) rfl sb rfl
   ·have hq0:fm2 ns[j]=none:=by
      rw[hM2]at h37
      cases hq:fm2 ns[j]with
      |none=>rfl
      |some q=>rw[hq]at h37;cases h37
    refine go 5 ?_;refine a0g ?_;refine a4t (a5N kvs2 ns[j] (.int .i64 (i:Int))) (a0R he) he (ns[j]) rfl rfl rfl (rfl) ?_;refine go 8 ?_;refine a0g ?_;exact a6P (j+1) (G) ((a5N kvs2 ns[j] (.int .i64 (i:Int)))) ((fun y=>if ns[j]=y then some i else fm2 y)) (_) ⟨by omega,hJ2,(hK2.new (by omega) ⟨hlt,(c0V hno _).1 (List.getElem_mem hlj)⟩ hq0).congr fun k z h=>b6G hlj h,c7v hM2 ns[j] i⟩ (by omega) rfl sb rfl
  ·obtain rfl:j=ns.length:=by omega
   rw[List.take_length]at hK2
   refine a2L (a2h G) hR21 (by rw[a3S];omega) hcap21 hmax21 ?_;refine go 11 ?_;exact c7U (i+1) (_) (G) (kvs2) (fm2) (_) ⟨by omega,hJ.trans (j25.trans hJ2),hK2.congr (fun k z h=>c7t hlt hno h),hM2⟩ (by omega) rfl sb (by simp only[hGl])
 ·obtain rfl:i=l.length:=by omega
  refine go 14 ?_;refine a2D rfl rfl rfl ?_;exact a4Y (fun _ m=>m) ⟨_,_,F,kvs,fm,rfl,rfl,hK.congr (fun k z h=>⟨h.1,h⟩),hM⟩
end Go.Proofs.YtdapmfkbpnjkmaaGreat
set_option linter.all false
namespace Go.Sx
open Go
def NmL (l:List Rep) (W:List (List ByteArray)):Prop:=W.length=l.length∧∀i (h1:i<W.length) (h2:i<l.length) z,z∈W[i]↔nm l[i] z
structure Lea (l:List Rep) (F:List Nat):Prop where
 len:F.length=l.length
 le:∀i (h:i<F.length),F[i]≤i
 idem:∀i (h:i<F.length) (h2:F[i]<F.length),F[F[i]]=F[i]
 sound:∀i (h:i<F.length),Lnk l i F[i]
section
variable {l:List Rep} {F:List Nat} {W:List (List ByteArray)} {i k a b:Nat}
theorem Lea.lt (h:Lea l F) (hi:i<F.length):F[i]<F.length:=Nat.lt_of_le_of_lt (h.le i hi) hi
theorem c0B (l:List Rep):Lea l (List.range l.length):=⟨by simp,fun i h=>by simp,fun i h h2=>by simp,fun i h=>by simp only[List.getElem_range];exact .refl i⟩
def a4f (F:List Nat) (hi lo:Nat):List Nat:=F.map fun x=>if x=hi then lo else x
theorem a6m (F:List Nat) (hi lo:Nat):(a4f F hi lo).length=F.length:=by simp[a4f]
theorem Lea.meet (h:Lea l F) (hi:i<F.length) (hk:k<F.length) (hne:F[i]≠F[k]) (hl:Lnk l i k):Lea l (a4f F (max F[i] F[k]) (min F[i] F[k]))∧(a4f F (max F[i] F[k]) (min F[i] F[k])).sum<F.sum:=by
 have key:∀(A B:Nat),A<B→(∃p,∃hp:p<F.length,F[p]=A)→(∃p,∃hp:p<F.length,F[p]=B)→Lnk l A B→Lea l (a4f F B A)∧(a4f F B A).sum<F.sum:=by
  rintro A B hAB ⟨p,hp,hpA⟩ ⟨q,hq,hqB⟩ hAk
  have hA:A<F.length:=hpA▸h.lt hp
  have hFA:F[A]=A:=by have:=h.idem p hp (h.lt hp);simpa only[hpA]using this
  refine⟨⟨by rw[a6m];exact h.len,fun j hj=>?_,fun j hj hj2=>?_,fun j hj=>?_⟩,?_⟩
  ·rw[a6m]at hj
   have:=h.le j hj
   simp only[a4f,List.getElem_map]
   split<;>omega
  ·rw[a6m]at hj
   simp only[a4f,List.getElem_map]
   by_cases e:F[j]=B
   ·simp only[e,if_true,hFA]
    rw[if_neg (by omega)]
   ·simp only[if_neg e]
    rw[h.idem j hj (h.lt hj),if_neg e]
  ·rw[a6m]at hj
   simp only[a4f,List.getElem_map]
   have:=h.sound j hj
   split
   ·rename_i e;rw[e]at this;exact this.trans hAk.symm
   ·exact this
  ·have hle:∀(G:List Nat),(a4f G B A).sum≤G.sum:=fun G=>by
    induction G with
    |nil=>exact Nat.le_refl _
    |cons x G ih=>
     simp only[a4f,List.map_cons,List.sum_cons]at ih ⊢
     split<;>omega
   have hlt:∀(G:List Nat),B∈G→(a4f G B A).sum<G.sum:=fun G=>by
    induction G with
    |nil=>intro h;cases h
    |cons x G ih=>
     intro hm
     have h1:=hle G
     simp only[a4f,List.map_cons,List.sum_cons]at ih h1 ⊢
     rcases List.mem_cons.1 hm with rfl|hm
     ·rw[if_pos rfl];omega
     ·have:=ih hm
      split<;>omega
   exact hlt F (hqB▸List.getElem_mem hq)
 have l1:=h.sound i hi
 have l2:=h.sound k hk
 rcases Nat.lt_or_gt_of_ne hne with h1|h1
 ·rw[Nat.max_eq_right (Nat.le_of_lt h1),Nat.min_eq_left (Nat.le_of_lt h1)];exact key F[i] F[k] h1 ⟨i,hi,rfl⟩ ⟨k,hk,rfl⟩ ((l1.symm.trans hl).trans l2)
 ·rw[Nat.max_eq_left (Nat.le_of_lt h1),Nat.min_eq_right (Nat.le_of_lt h1)];exact key F[k] F[i] h1 ⟨k,hk,rfl⟩ ⟨i,hi,rfl⟩ ((l2.symm.trans hl.symm).trans l1)
def c5w (F:List Nat) (i:Nat):Nat:=F.getD i i
theorem a6J (h:i<F.length):c5w F i=F[i]:=by simp[c5w,List.getD,h]
theorem a8W (h:F.length≤i):c5w F i=i:=by simp[c5w,List.getD,List.getElem?_eq_none h]
theorem Lea.rts (h:Lea l F) (hq:∀i k (h1:i<F.length) (h2:k<F.length) (h3:i<l.length) (h4:k<l.length),k<i→F[i]=F[k]∨∀z,nm l[i] z→¬nm l[k] z):Rts l (c5w F):=by
 refine⟨fun i=>?_,fun i=>?_,fun {i k z} hi hk h1 h2=>?_,fun i=>?_⟩
 ·rcases Nat.lt_or_ge i F.length with hi|hi
  ·rw[a6J hi];exact h.le i hi
  ·rw[a8W hi];exact Nat.le_refl _
 ·rcases Nat.lt_or_ge i F.length with hi|hi
  ·rw[a6J hi,a6J (h.lt hi),h.idem i hi (h.lt hi)]
  ·rw[a8W hi,a8W hi]
 ·have hi':i<F.length:=by rw[h.len];exact hi
  have hk':k<F.length:=by rw[h.len];exact hk
  rw[a6J hi',a6J hk']
  rcases Nat.lt_trichotomy k i with h3|h3|h3
  ·rcases hq i k hi' hk' hi hk h3 with h4|h4
   ·exact h4
   ·exact absurd h2 (h4 z h1)
  ·subst h3;rfl
  ·rcases hq k i hk' hi' hk hi h3 with h4|h4
   ·exact h4.symm
   ·exact absurd h1 (h4 z h2)
 ·rcases Nat.lt_or_ge i F.length with hi|hi
  ·rw[a6J hi];exact h.sound i hi
  ·rw[a8W hi];exact .refl i
def a3Z (F:List Nat) (hi lo j:Nat):List Nat:=a4f (F.take j) hi lo++F.drop j
theorem b0T (F:List Nat) (hi lo j:Nat):(a3Z F hi lo j).length=F.length:=by simp[a3Z,a4f];omega
theorem b8u {j:Nat} (F:List Nat) (hi lo:Nat) (h:F.length≤j):a3Z F hi lo j=a4f F hi lo:=by
 rw[a3Z,List.take_of_length_le h,List.drop_eq_nil_of_le h,List.append_nil]
theorem c0K {j:Nat} (F:List Nat) (hi lo:Nat) (h:j<F.length) (h2:j<(a3Z F hi lo j).length):(a3Z F hi lo j)[j]=F[j]:=by
 have e:(a4f (F.take j) hi lo).length=j:=by rw[a6m,List.length_take];omega
 simp only[a3Z]
 rw[List.getElem_append_right (by omega)]
 simp[e]
theorem b8v {j:Nat} {F:List Nat} {hi lo:Nat} (h:j<F.length) (e:F[j]=hi):(a3Z F hi lo j).set j lo=a3Z F hi lo (j+1):=by
 have e1:(a4f (F.take j) hi lo).length=j:=by rw[a6m,List.length_take];omega
 have e2:a4f (F.take (j+1)) hi lo=a4f (F.take j) hi lo++[lo]:=by rw[←a0q h,a4f,List.map_append,List.map_cons,if_pos e];rfl
 rw[a3Z,List.set_append_right _ _ (by omega),e1,Nat.sub_self,List.drop_eq_getElem_cons h,a3Z,e2,List.append_assoc];rfl
theorem c0L {j:Nat} {F:List Nat} {hi lo:Nat} (h:j<F.length) (e:¬F[j]=hi):a3Z F hi lo j=a3Z F hi lo (j+1):=by
 have e2:a4f (F.take (j+1)) hi lo=a4f (F.take j) hi lo++[F[j]]:=by rw[←a0q h,a4f,List.map_append,List.map_cons,if_neg e];rfl
 rw[a3Z,a3Z,e2,List.drop_eq_getElem_cons h,List.append_assoc];rfl
theorem c0M {R:Nat→Nat} (hle:∀i,R i≤i) {n i k:Nat} (h:k≤i):a0S R k i=[]:=by
 unfold a0S;rw[List.filter_eq_nil_iff];intro j hj
 have:=List.mem_range.1 hj
 have:=hle j
 simp;omega
end
section
variable {F:List Nat} {i n:Nat} {l:List Rep}
theorem a4s (h:i<F.length):(a5j F)[i]? = some [ci ((F[i]:Nat):Int)]:=by simp[a5j,h]
theorem b3z (x:Nat):(a5j F).set i [ci (x:Int)]=a5j (F.set i x):=by simp[a5j,List.map_set]
theorem c3L (n:Nat):(List.replicate n [ci 0]).flatten=(a5j (List.replicate n 0)).flatten:=by simp[a5j]
def b9b (n i:Nat):List Nat:=List.range i++List.replicate (n-i) 0
theorem c1P (h:i<n):(b9b n i).set i i=b9b n (i+1):=by
 have e:(List.range i).length=i:=by simp
 rw[b9b,List.set_append_right _ _ (by omega),e,Nat.sub_self,show n-i=(n-(i+1))+1 by omega,List.replicate_succ,b9b,List.range_succ,List.append_assoc];rfl
theorem c4P (h:i≤n):(b9b n i).length=n:=by simp[b9b];omega
theorem c4O (n:Nat):b9b n n=List.range n:=by simp[b9b]
abbrev LsS:=Value×List ByteArray
def vS (n:Nat) (Q:List LsS):List (List Value):=(Q.map fun p=>[p.1])++List.replicate (n-Q.length) [Value.slice none 0 0]
theorem d1X (n:Nat) (Q:List LsS):Uk 1 (vS n Q):=by
 refine Uk.append (fun c hc=>?_) fun c hc=>?_
 ·obtain⟨x,_,rfl⟩:=List.mem_map.1 hc;rfl
 ·rw[List.eq_of_mem_replicate hc];rfl
theorem d0K {Q:List LsS} (h:Q.length≤n):(vS n Q).length=n:=by simp[vS];omega
theorem c8C {Q:List LsS} (hQ:Q.length=i) (h:i<n) (x:LsS):(vS n Q).set i [x.1]=vS n (Q++[x]):=by
 subst hQ
 have e:(Q.map fun p:LsS=>[p.1]).length=Q.length:=by simp
 rw[vS,List.set_append_right _ _ (by omega),e,Nat.sub_self,show n-Q.length=(n-(Q.length+1))+1 by omega,List.replicate_succ]
 simp[vS]
theorem c1W {I:IMap}:∀(Q:List LsS),(∀p∈Q,RdS I p.1 p.2)→Flat I (vS Q.length Q).flatten (Q.map Prod.snd)
 | [],_=>.nil
 |q::Q,h=>by
  have ih:=c1W Q fun p hp=>h p (by simp[hp])
  have e:(vS (q::Q).length (q::Q)).flatten=[q.1]++(vS Q.length Q).flatten:=by simp[vS]
  rw[e];exact .cons (vs:=[q.1]) ⟨_,rfl,h q (by simp)⟩ ih
theorem a6p {l:List ByteArray} {k:Nat} {s z:ByteArray}:z∈l.take k++([s]++l.drop k)↔z∈l∨z=s:=by
 conv=>rhs;rw[←List.take_append_drop k l]
 simp only[List.mem_append,List.mem_singleton]
 constructor
 ·rintro (h|h|h)
  ·exact .inl (.inl h)
  ·exact .inr h
  ·exact .inl (.inr h)
 ·rintro ((h|h)|h)
  ·exact .inl h
  ·exact .inr (.inr h)
  ·exact .inr (.inl h)
theorem c2x {a b:List ByteArray} {i k:Nat} (hi:i<a.length) (hk:k<b.length) (h:a[i]=b[k]):(a.any fun x=>decide (x∈b))=true:=List.any_eq_true.2 ⟨a[i],List.getElem_mem hi,by rw[h];simp⟩
theorem c2w {a b:List ByteArray} (h:∀z∈a,z∉b):(a.any fun x=>decide (x∈b))=false:=List.any_eq_false.2 fun x hx=>by simpa using h x hx
theorem a5p {α:Type} {l:List α} {i:Nat} (h:i<l.length) {z:α}:z∈l.take (i+1)↔z∈l.take i∨z=l[i]:=by
 have e:=a0q h
 rw[←e,List.mem_append,List.mem_singleton]
theorem b8y {l:List Evt} {i:Nat} (h:i<l.length) (z:ByteArray):(∃e∈l.take (i+1),z∈a1R e)↔(∃e∈l.take i,z∈a1R e)∨z∈a1R l[i]:=by
 constructor
 ·rintro⟨e,he,hz⟩
  rcases (a5p h).1 he with h|h
  ·exact .inl ⟨e,h,hz⟩
  ·exact .inr (h▸hz)
 ·rintro (⟨e,he,hz⟩|hz)
  ·exact⟨e,(a5p h).2 (.inl he),hz⟩
  ·exact⟨_,(a5p h).2 (.inr rfl),hz⟩
def d2b (l:List Rep) (F:List Nat) (i k:Nat):Prop:=∀(h1:i<F.length) (h2:k<F.length) (h3:i<l.length) (h4:k<l.length),F[i]=F[k]∨∀z,nm l[i] z→¬nm l[k] z
theorem b9H {W:List (List ByteArray)} {i k:Nat} (hW:NmL l W) (h1:i<W.length) (h2:k<W.length) (hi:i<l.length) (hk:k<l.length) (h:(W[i].any fun x=>decide (x∈W[k]))=false):∀z,nm l[i] z→¬nm l[k] z:=fun z h3 h4=>by
 have:=List.any_eq_false.1 h z ((hW.2 i h1 hi z).2 h3)
 exact this (by simpa using (hW.2 k h2 hk z).2 h4)
theorem b7W {W:List (List ByteArray)} {i k:Nat} (hW:NmL l W) (h1:i<W.length) (h2:k<W.length) (hi:i<l.length) (hk:k<l.length) (h:(W[i].any fun x=>decide (x∈W[k]))=true):Lnk l i k:=by
 obtain⟨z,hz,hz2⟩:=List.any_eq_true.1 h;exact .one hi hk ((hW.2 i h1 hi z).1 hz) ((hW.2 k h2 hk z).1 (by simpa using hz2))
def ShTo (l:List Rep) (F:List Nat) (i k:Nat):Prop:=∀i' k',(i'<i∨(i'=i∧k'<k))→k'<i'→d2b l F i' k'
theorem ShTo.zero:ShTo l F 0 0:=fun i' k' h _=>by omega
theorem ShTo.next {k:Nat} (h:ShTo l F i k) (hs:d2b l F i k):ShTo l F i (k+1):=fun i' k' h1 h2=>by
 by_cases e:i'=i∧k'=k
 ·rw[e.1,e.2];exact hs
 ·exact h i' k' (by omega) h2
theorem ShTo.row (h:ShTo l F i i):ShTo l F (i+1) 0:=fun i' k' h1 h2=>h i' k' (by omega) h2
theorem ShTo.rts (hF:Lea l F) (h:ShTo l F l.length 0):Rts l (c5w F):=hF.rts fun i k h1 h2 h3 h4 h5=>h i k (.inl h3) h5 h1 h2 h3 h4
def NmQ (l:List Rep) (Q:List LsS):Prop:=∀k (h:k<Q.length) (h2:k<l.length),a5A l[k] Q[k].2
theorem NmQ.nil:NmQ l []:=fun k h=>by cases h
theorem NmQ.next {Q:List LsS} {x:LsS} (h:NmQ l Q) (hQ:Q.length=i) (hi:i<l.length) (hn:a5A l[i] x.2):NmQ l (Q++[x]):=fun k h1 h2=>by
 subst hQ
 rcases Nat.lt_or_ge k Q.length with hk|hk
 ·rw[List.getElem_append_left hk];exact h k hk h2
 ·obtain rfl:k=Q.length:=by rw[List.length_append,List.length_singleton]at h1;omega
  rw[List.getElem_append_right (Nat.le_refl _)];simpa using hn
theorem NmQ.nml {Q:List LsS} (h:NmQ l Q) (hl:Q.length=l.length):NmL l (Q.map Prod.snd):=⟨by simp[hl],fun i h1 h2 z=>by
 rw[List.getElem_map]
 exact c0V (h i (by simpa using h1) h2) z⟩
theorem c0A {R:Nat→Nat} (h:c5w F=R) (hi:i<F.length):F[i]=R i:=by rw[←h,a6J hi]
theorem b3Z {R:Nat→Nat} {n:Nat} (h:R n=n):a0V R (n+1)=a0V R n++[n]:=by rw[b1o,if_pos h]
theorem b7n {R:Nat→Nat} {n:Nat} (h:¬R n=n):a0V R (n+1)=a0V R n:=by rw[b1o,if_neg h]
theorem c3J {R:Nat→Nat} {n r:Nat} (h:R n=r):a0S R (n+1) r=a0S R n r++[n]:=by rw[a5q,if_pos h]
theorem c7w {R:Nat→Nat} {n r:Nat} (h:¬R n=r):a0S R (n+1) r=a0S R n r:=by rw[a5q,if_neg h]
theorem b7m {R:Nat→Nat} {n:Nat}:(a0V R n).length≤n:=by
 unfold a0V;exact Nat.le_trans (List.length_filter_le _ _) (by simp)
end
end Go.Sx
set_option linter.all false
namespace Go.Sx
open Go
abbrev Row:=Nat×List Bool
section
variable {Q:List Row} {rest:List (List Value)} {k:Nat}
end
section
variable {P:Program} {n:Sz} {E:Ent} {I:IMap} {L:LL} {H:List Res} {K:Act→World→Prop} {e:Nat}
end
section
variable {c:List Kind} {l:List Rep} {R:Nat→Nat} {i j n r:Nat}
theorem b4I (h:j<(a0V R n).length) (h2:j<((a5S R n).map nI).length):((a5S R n).map nI)[j]=nI (a0S R n (a0V R n)[j]):=by simp[a5S]
end
theorem FnV.cast {P:Program} {f:FuncId} {args:Array Value} {I:IMap} {v u:Value} (h:FnV P f args I v) (e:v=u):FnV P f args I u:=e▸h
section
variable {Q:List Row} {M:Nat→Int→Bool} {l:List Rep} {i n g q:Nat} {k:Int} {c:List Kind}
theorem c0N {R:Nat→Nat} {n r:Nat}:(a0S R n r).length≤n:=by
 unfold a0S;exact Nat.le_trans (List.length_filter_le _ _) (by simp)
end
end Go.Sx
namespace Go.Proofs.YtdapmfkbpnjkmaaGreat
open Go Go.Sx
set_option linter.all false
set_option maxRecDepth 20000
set_option maxHeartbeats 4000000
theorem b8J (I:IMap) (e:Evt) (hs:SmE e) :
    FnI Tryz.prog 169 #[.agg e.cells.toArray] I (fun u J=>RdS J u (a1R e)):=by
 refine enter Tryz.func169 Tryz.call169 rfl Tryz.ntmps169 rfl (fun w0=>?_);refine go 3 ?_;refine a0B _ rfl rfl rfl (fun g1=>?_);refine go 8 ?_;refine a0a (b1m _ e hs) rfl rfl ?_;refine go 3 ?_;refine cb rfl (fun h5 p5=>?_) (fun h5 p5=>?_)
 ·refine go 7 ?_;refine a0x rfl rfl ?_;exact q_i (by simp only[a1R,show a1H e=false by simpa using h5,if_true];exact RdS.nil')
 ·have hve:a1H e=true:=by simpa using h5
  refine go 10 ?_;refine cb rfl (fun h8 p8=>?_) (fun h8 p8=>?_)
  ·refine go 5 ?_;refine a0e he he rfl rfl rfl rfl rfl rfl rfl (fun v11=>?_);refine a0o (l:=[e.part]) rfl rfl (.one rfl) (fun I11 j11 R11=>?_);refine go 5 ?_;refine a0x rfl rfl ?_;exact q_i (by simp only[a1R,hve,p8,if_true,if_false,Bool.true_eq_false];exact R11)
  ·refine go 8 ?_;refine o_v rfl (c5M rfl rfl) ?_;refine go 4 ?_;refine o_v rfl (c5L rfl rfl) ?_;refine go 1 ?_;refine a0e he he rfl rfl rfl rfl rfl rfl rfl (fun v22=>?_);refine a0o (l:=[d1f e.part e.into,d1e e.part e.into]) rfl rfl (.cons rfl (.one rfl)) (fun I22 j22 R22=>?_);refine go 4 ?_;refine a0x rfl rfl ?_;exact q_i (by simp only[a1R,hve,show e.op=2 by omega,if_true,if_false,Bool.true_eq_false];exact R22)
theorem c4o (I:IMap) (v:Value) (l:List ByteArray) (hv:RdS I v l) (hl:l.length≤1000) (s:ByteArray) :
    FnI Tryz.prog 170 #[v,.string s] I (fun u J=>∃ns,RdS J u ns∧ns.length≤l.length+1∧∀z,z∈ns↔z∈l∨z=s):=by
 have hv0:=hv
 obtain⟨A,c0,rfl,hA,hc,hm⟩:=hv;refine enter Tryz.func170 Tryz.call170 rfl Tryz.ntmps170 rfl (fun w0=>?_);refine go 11 ?_;refine a7a (α:=Nat) (Ix:=(fun k=>I)) (Lx:=(fun k=>[(0,.slice A l.length c0),(1,.string s),(5,.int .i64 ((k:Nat):Int))])) (Hx:=(fun k=>[])) (p:=(fun k=>k≤l.length)) ?_ ?_
 ·refine go 1 ?_
  refine a0L (α:=Nat) 0 (fun k=>I)
   (fun k=>[(0,.slice A l.length c0),(1,.string s),(5,.int .i64 ((k:Nat):Int))])
   (fun k=>[])
   (fun k=>k≤l.length)
   (fun k=>l.length-k) (Nat.zero_le _) rfl sb rfl ?_
  intro k hk;refine go 8 ?_;refine sxb 10 rfl (fun h10 p10=>?_) (fun h10 p10=>?_)
  ·have hlt:k<l.length:=by omega
   refine go 2 ?_;obtain⟨b13,o13,w13,e13,c13,r13⟩:=RdA.at_ hA (i:=k) (by omega);obtain rfl:=r13;refine a0v (a0y rfl rfl h10 (a0l rfl (a0n he rfl rfl e13 (k) (by omega) (by omega)) ?_));refine a0v (a0y rfl rfl h10 (a0l rfl (a0W he rfl (c13 0 _ rfl)) ?_));refine go 5 ?_;refine cb rfl (fun h17 p17=>?_) (fun h17 p17=>?_)
   ·refine go 10 ?_;exact a0J (k+1) (by omega) (by omega) rfl sb rfl
   ·refine go 5 ?_;exact a2T k hk sb rfl rfl
  ·refine go 9 ?_;refine a0P rfl ?_;refine go 5 ?_;exact a2T k hk sb rfl rfl
 ·intro k hk;refine go 8 ?_;refine sxb 24 rfl (fun h24 p24=>?_) (fun h24 p24=>?_)
  ·have hlt:k<l.length:=by omega
   refine go 2 ?_;obtain⟨b27,o27,w27,e27,c27,r27⟩:=RdA.at_ hA (i:=k) (by omega);obtain rfl:=r27;refine a0v (a0y rfl rfl h24 (a0l rfl (a0n he rfl rfl e27 (k) (by omega) (by omega)) ?_));refine a0v (a0y rfl rfl h24 (a0l rfl (a0W he rfl (c27 0 _ rfl)) ?_));refine go 5 ?_;refine cb rfl (fun h31 p31=>?_) (fun h31 p31=>?_)
   ·refine go 8 ?_;refine a0x rfl rfl ?_;exact q_i ⟨l,hv0,Nat.le_succ _,fun z=>⟨.inl,fun h=>h.elim id fun e=>by rw[e,←p31];exact List.getElem_mem hlt⟩⟩
   ·refine go 3 ?_;refine a7H (fun hE6 hf6=>?_);refine a1h T.mixed ?_;refine a0f 1 rfl rfl (by kernel_rfl) rfl .slnil rfl (a0c rfl) ?_;refine a0f 2 rfl rfl (by kernel_rfl) rfl .slnil rfl (a0c rfl) ?_;refine a0f 3 rfl rfl (by kernel_rfl) rfl .slnil rfl (a2E he rfl rfl k rfl (by omega)) ?_;refine a0f 5 rfl rfl (by kernel_rfl) rfl .slnil rfl (a0c rfl) ?_;refine a0f 8 rfl rfl (by kernel_rfl) rfl .slnil rfl (a0c rfl) ?_;refine a0f 9 rfl rfl (by kernel_rfl) rfl .slnil rfl (a0c rfl) ?_;refine a0f 10 rfl rfl (by kernel_rfl) rfl .slnil rfl (a0U he rfl rfl k rfl (by omega)) ?_;refine a2A 0 6 (by kernel_rfl) rfl rfl ?_ ?_
    ·refine a0e he he rfl rfl rfl rfl rfl rfl rfl (fun v33=>?_);refine a0r (fun _ m=>m.keeps (.cons _ .slnil)) ?_;refine a2A 4 6 (by kernel_rfl) rfl rfl ?_ ?_
     ·refine a1l ((hv0.take k (by omega))) rfl he he rfl rfl rfl rfl (by simp;omega) (by simp;omega) rfl (fun v37 x37 f37=>?_);refine a0r (fun _ m=>m.keeps (.cons _ .slnil)) ?_;refine a0i 6 (by kernel_rfl) rfl ?_;refine a0e he he rfl rfl rfl rfl rfl rfl rfl (fun v39=>?_);refine a0r (fun _ m=>m.keeps (.cons _ (.cons _ .slnil))) ?_;refine a0i 7 (by kernel_rfl) rfl ?_;refine a0g ?_;refine a1r he he rfl rfl rfl rfl rfl (by simp;omega) (by simp;omega) rfl (fun v40=>?_);refine a0r (fun _ m=>m.keeps (.cons _ (.cons _ .slnil))) ?_;refine a0i 11 (by kernel_rfl) rfl ?_;refine a1l ((hv0.drop k (by omega))) rfl he he rfl rfl rfl rfl (by simp;omega) (by simp;omega) rfl (fun v44 x44 f44=>?_);refine a0o (l:=l.take k++[s]++l.drop k) rfl (by simp<;>omega) ((((Flat.nil.append f37).append (.one rfl)).append f44)) (fun I44 j44 R44=>?_);refine a0r (fun _ m=>m.keepsI (.cons _ .slnil) (j44) hE6 hf6) ?_;refine d_t 12 rfl rfl (by kernel_rfl) rfl (fun _ m=>m.keepsI (.cons _ .slnil) (j44) hE6 hf6) (y_v rfl (a0I rfl)) ?_;refine a0w (by kernel_rfl) ?_;refine go 2 ?_;refine a0x rfl rfl ?_;exact q_i ⟨_,R44,by simp;omega,fun z=>by rw[List.append_assoc];exact a6p⟩
     ·refine a0e he he rfl rfl rfl rfl rfl rfl rfl (fun v39=>?_);refine a0r (fun _ m=>m.keeps (.cons _ (.cons _ .slnil))) ?_;refine a0i 4 (by kernel_rfl) rfl ?_;refine a0g ?_;refine a1l ((hv0.take k (by omega))) rfl he he rfl rfl rfl rfl (by simp;omega) (by simp;omega) rfl (fun v37 x37 f37=>?_);refine a0r (fun _ m=>m.keeps (.cons _ (.cons _ .slnil))) ?_;refine a0i 7 (by kernel_rfl) rfl ?_;refine a0g ?_;refine a0g ?_;refine a1r he he rfl rfl rfl rfl rfl (by simp;omega) (by simp;omega) rfl (fun v40=>?_);refine a0r (fun _ m=>m.keeps (.cons _ (.cons _ .slnil))) ?_;refine a0i 11 (by kernel_rfl) rfl ?_;refine a1l ((hv0.drop k (by omega))) rfl he he rfl rfl rfl rfl (by simp;omega) (by simp;omega) rfl (fun v44 x44 f44=>?_);refine a0o (l:=l.take k++[s]++l.drop k) rfl (by simp<;>omega) ((((Flat.nil.append f37).append (.one rfl)).append f44)) (fun I44 j44 R44=>?_);refine a0r (fun _ m=>m.keepsI (.cons _ .slnil) (j44) hE6 hf6) ?_;refine d_t 12 rfl rfl (by kernel_rfl) rfl (fun _ m=>m.keepsI (.cons _ .slnil) (j44) hE6 hf6) (y_v rfl (a0I rfl)) ?_;refine a0w (by kernel_rfl) ?_;refine go 2 ?_;refine a0x rfl rfl ?_;exact q_i ⟨_,R44,by simp;omega,fun z=>by rw[List.append_assoc];exact a6p⟩
    ·refine a0e he he rfl rfl rfl rfl rfl rfl rfl (fun v39=>?_);refine a0r (fun _ m=>m.keeps (.cons _ .slnil)) ?_;refine a0i 0 (by kernel_rfl) rfl ?_;refine a0e he he rfl rfl rfl rfl rfl rfl rfl (fun v33=>?_);refine a0r (fun _ m=>m.keeps (.cons _ (.cons _ .slnil))) ?_;refine a0i 4 (by kernel_rfl) rfl ?_;refine a1l ((hv0.take k (by omega))) rfl he he rfl rfl rfl rfl (by simp;omega) (by simp;omega) rfl (fun v37 x37 f37=>?_);refine a0r (fun _ m=>m.keeps (.cons _ (.cons _ .slnil))) ?_;refine a0i 7 (by kernel_rfl) rfl ?_;refine a0g ?_;refine a0g ?_;refine a1r he he rfl rfl rfl rfl rfl (by simp;omega) (by simp;omega) rfl (fun v40=>?_);refine a0r (fun _ m=>m.keeps (.cons _ (.cons _ .slnil))) ?_;refine a0i 11 (by kernel_rfl) rfl ?_;refine a1l ((hv0.drop k (by omega))) rfl he he rfl rfl rfl rfl (by simp;omega) (by simp;omega) rfl (fun v44 x44 f44=>?_);refine a0o (l:=l.take k++[s]++l.drop k) rfl (by simp<;>omega) ((((Flat.nil.append f37).append (.one rfl)).append f44)) (fun I44 j44 R44=>?_);refine a0r (fun _ m=>m.keepsI (.cons _ .slnil) (j44) hE6 hf6) ?_;refine d_t 12 rfl rfl (by kernel_rfl) rfl (fun _ m=>m.keepsI (.cons _ .slnil) (j44) hE6 hf6) (y_v rfl (a0I rfl)) ?_;refine a0w (by kernel_rfl) ?_;refine go 2 ?_;refine a0x rfl rfl ?_;exact q_i ⟨_,R44,by simp;omega,fun z=>by rw[List.append_assoc];exact a6p⟩
  ·refine go 9 ?_;refine a0P rfl ?_;refine go 3 ?_;refine a7H (fun hE6 hf6=>?_);refine a1h T.mixed ?_;refine a0f 1 rfl rfl (by kernel_rfl) rfl .slnil rfl (a0c rfl) ?_;refine a0f 2 rfl rfl (by kernel_rfl) rfl .slnil rfl (a0c rfl) ?_;refine a0f 3 rfl rfl (by kernel_rfl) rfl .slnil rfl (a2E he rfl rfl k rfl (by omega)) ?_;refine a0f 5 rfl rfl (by kernel_rfl) rfl .slnil rfl (a0c rfl) ?_;refine a0f 8 rfl rfl (by kernel_rfl) rfl .slnil rfl (a0c rfl) ?_;refine a0f 9 rfl rfl (by kernel_rfl) rfl .slnil rfl (a0c rfl) ?_;refine a0f 10 rfl rfl (by kernel_rfl) rfl .slnil rfl (a0U he rfl rfl k rfl (by omega)) ?_;refine a2A 0 6 (by kernel_rfl) rfl rfl ?_ ?_
   ·refine a0e he he rfl rfl rfl rfl rfl rfl rfl (fun v33=>?_);refine a0r (fun _ m=>m.keeps (.cons _ .slnil)) ?_;refine a2A 4 6 (by kernel_rfl) rfl rfl ?_ ?_
    ·refine a1l ((hv0.take k (by omega))) rfl he he rfl rfl rfl rfl (by simp;omega) (by simp;omega) rfl (fun v37 x37 f37=>?_);refine a0r (fun _ m=>m.keeps (.cons _ .slnil)) ?_;refine a0i 6 (by kernel_rfl) rfl ?_;refine a0e he he rfl rfl rfl rfl rfl rfl rfl (fun v39=>?_);refine a0r (fun _ m=>m.keeps (.cons _ (.cons _ .slnil))) ?_;refine a0i 7 (by kernel_rfl) rfl ?_;refine a0g ?_;refine a1r he he rfl rfl rfl rfl rfl (by simp;omega) (by simp;omega) rfl (fun v40=>?_);refine a0r (fun _ m=>m.keeps (.cons _ (.cons _ .slnil))) ?_;refine a0i 11 (by kernel_rfl) rfl ?_;refine a1l ((hv0.drop k (by omega))) rfl he he rfl rfl rfl rfl (by simp;omega) (by simp;omega) rfl (fun v44 x44 f44=>?_);refine a0o (l:=l.take k++[s]++l.drop k) rfl (by simp<;>omega) ((((Flat.nil.append f37).append (.one rfl)).append f44)) (fun I44 j44 R44=>?_);refine a0r (fun _ m=>m.keepsI (.cons _ .slnil) (j44) hE6 hf6) ?_;refine d_t 12 rfl rfl (by kernel_rfl) rfl (fun _ m=>m.keepsI (.cons _ .slnil) (j44) hE6 hf6) (y_v rfl (a0I rfl)) ?_;refine a0w (by kernel_rfl) ?_;refine go 2 ?_;refine a0x rfl rfl ?_;exact q_i ⟨_,R44,by simp;omega,fun z=>by rw[List.append_assoc];exact a6p⟩
    ·refine a0e he he rfl rfl rfl rfl rfl rfl rfl (fun v39=>?_);refine a0r (fun _ m=>m.keeps (.cons _ (.cons _ .slnil))) ?_;refine a0i 4 (by kernel_rfl) rfl ?_;refine a0g ?_;refine a1l ((hv0.take k (by omega))) rfl he he rfl rfl rfl rfl (by simp;omega) (by simp;omega) rfl (fun v37 x37 f37=>?_);refine a0r (fun _ m=>m.keeps (.cons _ (.cons _ .slnil))) ?_;refine a0i 7 (by kernel_rfl) rfl ?_;refine a0g ?_;refine a0g ?_;refine a1r he he rfl rfl rfl rfl rfl (by simp;omega) (by simp;omega) rfl (fun v40=>?_);refine a0r (fun _ m=>m.keeps (.cons _ (.cons _ .slnil))) ?_;refine a0i 11 (by kernel_rfl) rfl ?_;refine a1l ((hv0.drop k (by omega))) rfl he he rfl rfl rfl rfl (by simp;omega) (by simp;omega) rfl (fun v44 x44 f44=>?_);refine a0o (l:=l.take k++[s]++l.drop k) rfl (by simp<;>omega) ((((Flat.nil.append f37).append (.one rfl)).append f44)) (fun I44 j44 R44=>?_);refine a0r (fun _ m=>m.keepsI (.cons _ .slnil) (j44) hE6 hf6) ?_;refine d_t 12 rfl rfl (by kernel_rfl) rfl (fun _ m=>m.keepsI (.cons _ .slnil) (j44) hE6 hf6) (y_v rfl (a0I rfl)) ?_;refine a0w (by kernel_rfl) ?_;refine go 2 ?_;refine a0x rfl rfl ?_;exact q_i ⟨_,R44,by simp;omega,fun z=>by rw[List.append_assoc];exact a6p⟩
   ·refine a0e he he rfl rfl rfl rfl rfl rfl rfl (fun v39=>?_);refine a0r (fun _ m=>m.keeps (.cons _ .slnil)) ?_;refine a0i 0 (by kernel_rfl) rfl ?_;refine a0e he he rfl rfl rfl rfl rfl rfl rfl (fun v33=>?_);refine a0r (fun _ m=>m.keeps (.cons _ (.cons _ .slnil))) ?_;refine a0i 4 (by kernel_rfl) rfl ?_;refine a1l ((hv0.take k (by omega))) rfl he he rfl rfl rfl rfl (by simp;omega) (by simp;omega) rfl (fun v37 x37 f37=>?_);refine a0r (fun _ m=>m.keeps (.cons _ (.cons _ .slnil))) ?_;refine a0i 7 (by kernel_rfl) rfl ?_;refine a0g ?_;refine a0g ?_;refine a1r he he rfl rfl rfl rfl rfl (by simp;omega) (by simp;omega) rfl (fun v40=>?_);refine a0r (fun _ m=>m.keeps (.cons _ (.cons _ .slnil))) ?_;refine a0i 11 (by kernel_rfl) rfl ?_;refine a1l ((hv0.drop k (by omega))) rfl he he rfl rfl rfl rfl (by simp;omega) (by simp;omega) rfl (fun v44 x44 f44=>?_);refine a0o (l:=l.take k++[s]++l.drop k) rfl (by simp<;>omega) ((((Flat.nil.append f37).append (.one rfl)).append f44)) (fun I44 j44 R44=>?_);refine a0r (fun _ m=>m.keepsI (.cons _ .slnil) (j44) hE6 hf6) ?_;refine d_t 12 rfl rfl (by kernel_rfl) rfl (fun _ m=>m.keepsI (.cons _ .slnil) (j44) hE6 hf6) (y_v rfl (a0I rfl)) ?_;refine a0w (by kernel_rfl) ?_;refine go 2 ?_;refine a0x rfl rfl ?_;exact q_i ⟨_,R44,by simp;omega,fun z=>by rw[List.append_assoc];exact a6p⟩
theorem b1n (I:IMap) (r:Rep) (S:Option Addr) (d:Nat) (hr:RdS I (.slice S r.options.length d) r.options) (hs:∀e∈r.options,SmE e) :
    FnI Tryz.prog 101 #[.agg (r.cells (.slice S r.options.length d)).toArray] I (fun u J=>∃ns,RdS J u ns∧a5A r ns):=by
 have hSA:RdA I S r.options:=hr.toA
 have hl5:=hr.lenLe
 have hl4:d≤9223372036854775807:=(by obtain⟨_,_,e,h,h1,h2⟩:=hr;cases e;exact h2)
 refine enter Tryz.func101 Tryz.call101 rfl Tryz.ntmps101 rfl (fun w0=>?_);refine go 3 ?_;refine a0B _ rfl rfl rfl (fun g1=>?_);refine go 8 ?_;refine a0a (a8d _ r S d hr hs) rfl rfl ?_;refine go 3 ?_;refine cb rfl (fun h9 p9=>?_) (fun h9 p9=>?_)
 ·refine go 7 ?_;refine a0x rfl rfl ?_;exact q_i ⟨[],RdS.nil',b0Z (by simpa using h9)⟩
 ·have hvr:a0t r=true:=by simpa using h9
  have hvl:=a2Y hvr
  refine go 14 ?_
  refine a5b ((0:Nat)) (_) ([]) (I) (fun i v3 ns J=>J)
   (fun i v3 ns J=>[(1,.pointer (some ⟨g1,0,none⟩)),(3,v3),(4,.int .i64 ((i:Nat):Int))])
   (fun i v3 ns J=>[.blk g1 64 (r.cells (.slice S r.options.length d))])
   (fun i v3 ns J=>i≤r.options.length∧ILe I J∧RdS J v3 ns∧ns.length≤2 * i∧∀z,z∈ns↔∃e∈r.options.take i,z∈a1R e)
   (fun i v3 ns J=>r.options.length-i) ⟨Nat.zero_le _,ILe.refl _,RdS.nil',Nat.le_refl _,fun z=>by simp⟩ rfl sb rfl ?_
  intro i v3 ns J ⟨hi,hJ,hv3,hn3,hns⟩
  have hSA:=hSA.le hJ
  refine go 10 ?_;refine cb rfl (fun h14 p14=>?_) (fun h14 p14=>?_)
  ·have hlt:i<r.options.length:=by omega
   have hn2:=(b0Y (a3b hvr _ (List.getElem_mem hlt))).2
   refine go 9 ?_;obtain⟨b20,o20,w20,e20,c20,r20⟩:=RdA.at_ hSA (i:=i) hlt;obtain rfl:=r20;refine o_v rfl (a0n he rfl rfl e20 (i) (by omega) hlt) ?_;refine o_v rfl (a0H he rfl c20 rfl) ?_;refine go 1 ?_;refine a0F (b8J _ r.options[i] (hs _ (List.getElem_mem hlt))) rfl rfl (fun v22 I22 j22 q22=>?_)
   try have hSA:=hSA.le j22
   try have hv3:=hv3.le j22
   obtain⟨NA,nc,rfl,hNA,_,_⟩:=id q22;refine go 9 ?_
   refine a5b ((0:Nat)) (v3) (ns) (I22) (fun j v6 ns2 J2=>J2)
    (fun j v6 ns2 J2=>[(1,.pointer (some ⟨g1,0,none⟩)),(3,v6),(4,.int .i64 ((i:Nat):Int)),(5,.slice NA (a1R r.options[i]).length nc),(6,.int .i64 ((j:Nat):Int))])
    (fun j v6 ns2 J2=>[.blk g1 64 (r.cells (.slice S r.options.length d))])
    (fun j v6 ns2 J2=>j≤(a1R r.options[i]).length∧ILe I22 J2∧RdS J2 v6 ns2∧ns2.length≤2 * i+j∧∀z,z∈ns2↔(∃e∈r.options.take i,z∈a1R e)∨z∈(a1R r.options[i]).take j)
    (fun j v6 ns2 J2=>(a1R r.options[i]).length-j) ⟨Nat.zero_le _,ILe.refl _,hv3,hn3,fun z=>by simp[hns z]⟩ rfl sb rfl ?_
   intro j v6 ns2 J2 ⟨hj,hJ2,hv6,hn6,hns2⟩
   have hNA:=hNA.le hJ2
   refine go 9 ?_;refine cb rfl (fun h26 p26=>?_) (fun h26 p26=>?_)
   ·have hlj:j<(a1R r.options[i]).length:=by omega
    refine go 8 ?_;obtain⟨b32,o32,w32,e32,c32,r32⟩:=RdA.at_ hNA (i:=j) (by omega);obtain rfl:=r32;refine o_v rfl (a0n he rfl rfl e32 (j) (by omega) (by omega)) ?_;refine o_v rfl (a0W he rfl (c32 0 _ rfl)) ?_;refine go 1 ?_;refine a0F (c4o _ v6 ns2 hv6 (by omega) (a1R r.options[i])[j]) rfl rfl (fun v34 I34 j34 q34=>?_);obtain⟨ns3,q34,hl3,hns3⟩:=q34;refine go 10 ?_;exact a2U (j+1) (_) (ns3) (_) ⟨by omega,hJ2.trans j34,q34,by omega,fun z=>(hns3 z).trans (by rw[hns2 z,a5p hlj,or_assoc])⟩ (by omega) rfl sb rfl
   ·obtain rfl:j=(a1R r.options[i]).length:=by omega
    rw[List.take_length]at hns2
    refine go 12 ?_;exact a2U (i+1) (v6) (ns2) (_) ⟨by omega,hJ.trans (j22.trans hJ2),hv6,by omega,fun z=>(hns2 z).trans (b8y hlt z).symm⟩ (by omega) rfl sb rfl
  ·obtain rfl:i=r.options.length:=by omega
   rw[List.take_length]at hns
   refine go 12 ?_;refine a0x rfl rfl ?_;exact q_i ⟨ns,hv3,fun z=>(hns z).trans ⟨fun h=>⟨hvr,h⟩,fun h=>h.2⟩,by omega⟩
theorem b0b (I:IMap) (v:Value) (l:List ByteArray) (hv:RdS I v l) (w:Value) (m:List ByteArray) (hw:RdS I w m) :
    FnV Tryz.prog 100 #[v,w] I (.bool (l.any fun x=>decide (x∈m))):=by
 have hv0:=hv
 obtain⟨A,c0,rfl,hA,hc,hm⟩:=hv;obtain⟨B,c1,rfl,hB,hc1,hm1⟩:=hw;refine enter Tryz.func100 Tryz.call100 rfl Tryz.ntmps100 rfl (fun w0=>?_);refine go 12 ?_
 refine a0L (α:=Nat) 0 (fun i=>I)
  (fun i=>[(0,.slice A l.length c0),(1,.slice B m.length c1),(5,.int .i64 ((i:Nat):Int))])
  (fun i=>[])
  (fun i=>i≤l.length∧∀x∈l.take i,x∉m)
  (fun i=>l.length-i) ⟨Nat.zero_le _,by simp⟩ rfl sb rfl ?_
 intro i ⟨hi,hn⟩;refine go 9 ?_;refine cb rfl (fun h10 p10=>?_) (fun h10 p10=>?_)
 ·have hlt:i<l.length:=by omega
  refine go 10 ?_
  refine a0L (α:=Nat) 0 (fun k=>I)
   (fun k=>[(0,.slice A l.length c0),(1,.slice B m.length c1),(5,.int .i64 ((i:Nat):Int)),(6,.int .i64 ((k:Nat):Int))])
   (fun k=>[])
   (fun k=>k≤m.length∧l[i]∉m.take k)
   (fun k=>m.length-k) ⟨Nat.zero_le _,by simp⟩ rfl sb rfl ?_
  intro k ⟨hk,hq⟩;refine go 9 ?_;refine cb rfl (fun h16 p16=>?_) (fun h16 p16=>?_)
  ·have hlk:k<m.length:=by omega
   refine go 5 ?_;refine a1h T.mixed ?_;refine a0f 0 rfl rfl (by kernel_rfl) rfl .slnil rfl (a0c rfl) ?_;refine a0f 1 rfl rfl (by kernel_rfl) rfl .slnil rfl (a0c rfl) ?_;obtain⟨b21,o21,w21,e21,c21,r21⟩:=RdA.at_ hA (i:=i) (by omega);obtain rfl:=r21;refine a0f 2 rfl rfl (by kernel_rfl) rfl .slnil rfl (a0n he rfl rfl e21 (i) (by omega) (by omega)) ?_;refine a0f 3 rfl rfl (by kernel_rfl) rfl .slnil rfl (a0W he rfl (c21 0 _ rfl)) ?_;refine a0f 4 rfl rfl (by kernel_rfl) rfl .slnil rfl (a0c rfl) ?_;refine a0f 5 rfl rfl (by kernel_rfl) rfl .slnil rfl (a0c rfl) ?_;obtain⟨b25,o25,w25,e25,c25,r25⟩:=RdA.at_ hB (i:=k) (by omega);obtain rfl:=r25;refine a0f 6 rfl rfl (by kernel_rfl) rfl .slnil rfl (a0n he rfl rfl e25 (k) (by omega) (by omega)) ?_;refine a0f 7 rfl rfl (by kernel_rfl) rfl .slnil rfl (a0W he rfl (c25 0 _ rfl)) ?_;refine a0f 8 rfl rfl (by kernel_rfl) rfl .slnil rfl (b4r rfl rfl) ?_;refine a0w (by kernel_rfl) ?_;refine go 1 ?_;refine cb rfl (fun h27 p27=>?_) (fun h27 p27=>?_)
   ·refine go 15 ?_;refine a0x rfl rfl ?_;exact q_v (congrArg Value.bool (c2x hlt hlk p27).symm)
   ·refine go 9 ?_;exact a0J (k+1) ⟨by omega,fun h=>((a5p hlk).1 h).elim hq p27⟩ (by omega) rfl sb rfl
  ·obtain rfl:k=m.length:=by omega
   rw[List.take_length]at hq
   refine go 12 ?_
   exact a0J (i+1) ⟨by omega,fun x hx=>by
     rcases (a5p hlt).1 hx with h|h
     · exact hn x h
     · rw[h];exact hq⟩ (by omega) rfl sb rfl
 ·obtain rfl:i=l.length:=by omega
  rw[List.take_length]at hn
  refine go 11 ?_;refine a0x rfl rfl ?_;exact q_v (congrArg Value.bool (c2w hn).symm)
theorem b8K (I:IMap) (v:Value) (l:List Rep) (hv:RdS I v l) (hl:l.length≤1000000) (hsl:∀r∈l,∀e∈r.options,SmE e) (R:Nat→Nat) (hRt:Rts l R) :
    FnI Tryz.prog 99 #[v] I (fun u J=>RdS J u ((a5S R l.length).map nI)):=by
 have hv0:=hv
 obtain⟨A,c0,rfl,hA,hc,hm⟩:=hv;refine enter Tryz.func99 Tryz.call99 rfl Tryz.ntmps99 rfl (fun w0=>?_);refine go 10 ?_;refine a4H he he rfl rfl rfl (by omega) (by omega) rfl (fun g18=>?_);refine a2K (a5j (b9b l.length 0)).flatten (by rw[b9b,List.range_zero,List.nil_append,Nat.sub_zero];exact c3L _) ?_;refine go 8 ?_;refine a4H he he rfl rfl rfl (by omega) (by omega) rfl (fun g21=>?_);refine go 10 ?_
 refine a3B ((0:Nat)) ([]) (I) (fun i Q J=>J)
  (fun i Q J=>[(0,.slice A l.length c0),(3,.slice (some ⟨g18,0,none⟩) l.length l.length),(4,.slice (some ⟨g21,0,none⟩) l.length l.length),(5,.int .i64 ((i:Nat):Int))])
  (fun i Q J=>[.blk g21 33 (vS l.length Q).flatten,.blk g18 3 (a5j (b9b l.length i)).flatten])
  (fun i Q J=>i≤l.length∧ILe I J∧List.length Q=i∧(∀p∈Q,RdS J (p:LsS).1 p.2)∧NmQ l Q)
  (fun i Q J=>l.length-i) ⟨Nat.zero_le _,ILe.refl _,rfl,fun p hp=>(by cases hp),NmQ.nil⟩ rfl sb rfl ?_
 intro i Q J ⟨hi,hJ,hQi,hQr,hQn⟩
 have hv0:=hv0.le hJ
 have hA:=hA.le hJ
 refine go 9 ?_;refine cb rfl (fun h25 p25=>?_) (fun h25 p25=>?_)
 ·have hlt:i<l.length:=by omega
  refine go 9 ?_;refine o_v rfl (a0n he rfl rfl rfl (i) (by omega) (by omega)) ?_;refine go 1 ?_;refine a0g ?_;refine a2b _ (i) (a2h _) he rfl rfl rfl rfl rfl (by omega) (by rw[a3S,c4P hi];omega) ?_;refine a2K (a5j (b9b l.length (i+1))).flatten (by rw[b3z,c1P hlt]) ?_;refine go 7 ?_;obtain⟨b36,o36,w36,e36,c36,r36⟩:=RdA.at_ hA (i:=i) (by omega);obtain⟨q36,rfl,S36,d36,rfl,hS36,hd36,hm36⟩:=r36;refine o_v rfl (a0n he rfl rfl e36 (i) (by omega) (by omega)) ?_;refine o_v rfl (a0H he rfl c36 rfl) ?_;refine go 1 ?_;refine a0F (b1n _ l[i] S36 d36 ⟨_,_,rfl,hS36,hd36,hm36⟩ (hsl _ (List.getElem_mem hlt))) rfl rfl (fun v38 I38 j38 q38=>?_)
  try have hv0:=hv0.le j38
  try have hA:=hA.le j38
  obtain⟨ns,q38,hno⟩:=q38;obtain⟨NA,nc,rfl,_,_,_⟩:=id q38;refine o_v rfl (a0n he rfl rfl rfl (i) (by omega) (by omega)) ?_;refine go 1 ?_;refine a0g ?_;refine a2b _ (i) (d1X _ _) he rfl rfl rfl rfl rfl (by omega) (by rw[d0K (by omega)];omega) ?_;refine a2K (vS l.length (Q++[(.slice NA ns.length nc,ns)])).flatten (by rw[←c8C hQi hlt (.slice NA ns.length nc,ns)]) ?_;refine go 9 ?_;exact a1X (i+1) ((Q++[(.slice NA ns.length nc,ns)])) (_) ⟨by omega,hJ.trans j38,by simp[hQi],fun p hp=>(List.mem_append.1 hp).elim (fun h=>(hQr p h).le j38) (fun h=>by rw[List.mem_singleton.1 h];exact q38),hQn.next hQi hlt hno⟩ (by omega) rfl sb rfl
 ·obtain rfl:i=l.length:=by omega
  rw[c4O]
  have hN:=hQn.nml hQi
  refine a2f (fun Ig21 jg21 cg21=>?_)
  try have hv0:=hv0.le jg21
  try have hA:=hA.le jg21
  rw[←hQi]at cg21
  obtain⟨W,hWq⟩:∃W,W=Q.map Prod.snd:=⟨_,rfl⟩;rw[←hWq]at hN
  have hW:RdA Ig21 (some ⟨g21,0,none⟩) W:=by rw[hWq];exact Flat.rda (c1W Q fun p hp=>(hQr p hp).le jg21) cg21
  have hWl:W.length=l.length:=by rw[hWq,List.length_map,hQi]
  refine go 12 ?_
  refine a1w (true) ((List.range l.length)) (fun b F=>Ig21)
   (fun b F=>[(0,.slice A l.length c0),(3,.slice (some ⟨g18,0,none⟩) l.length l.length),(4,.slice (some ⟨g21,0,none⟩) l.length l.length),(6,.bool b)])
   (fun b F=>[.blk g18 3 (a5j F).flatten])
   (fun b F=>Lea l F∧(b=false→ShTo l F l.length 0))
   (fun b F=>if b=true then F.sum+1 else 0) ⟨c0B l,fun h=>by cases h⟩ rfl sb rfl ?_
  intro b F ⟨hF,hb⟩
  have hFl:=hF.len
  refine go 6 ?_;refine cb rfl (fun h40 p40=>?_) (fun h40 p40=>?_)
  ·refine go 14 ?_
   refine a3B ((0:Nat)) (false) (F) (fun i b2 G=>Ig21)
    (fun i b2 G=>[(0,.slice A l.length c0),(3,.slice (some ⟨g18,0,none⟩) l.length l.length),(4,.slice (some ⟨g21,0,none⟩) l.length l.length),(6,.bool b2),(7,.int .i64 ((i:Nat):Int))])
    (fun i b2 G=>[.blk g18 3 (a5j G).flatten])
    (fun i b2 G=>i≤l.length∧Lea l G∧(b2=false→G=F∧ShTo l G i 0)∧(b2=true→G.sum<F.sum))
    (fun i b2 G=>l.length-i) ⟨Nat.zero_le _,hF,fun _=>⟨rfl,ShTo.zero⟩,fun h=>by cases h⟩ rfl sb rfl ?_
   intro i b2 G ⟨hi,hG,hb2,hs2⟩
   have hGl:=hG.len
   refine go 9 ?_;refine cb rfl (fun h44 p44=>?_) (fun h44 p44=>?_)
   ·have hlt:i<l.length:=by omega
    refine go 10 ?_
    refine a3B ((0:Nat)) (b2) (G) (fun k b3 G3=>Ig21)
     (fun k b3 G3=>[(0,.slice A l.length c0),(3,.slice (some ⟨g18,0,none⟩) l.length l.length),(4,.slice (some ⟨g21,0,none⟩) l.length l.length),(6,.bool b3),(7,.int .i64 ((i:Nat):Int)),(8,.int .i64 ((k:Nat):Int))])
     (fun k b3 G3=>[.blk g18 3 (a5j G3).flatten])
     (fun k b3 G3=>k≤i∧Lea l G3∧(b3=false→G3=F∧ShTo l G3 i k)∧(b3=true→G3.sum<F.sum))
     (fun k b3 G3=>i-k) ⟨Nat.zero_le _,hG,hb2,hs2⟩ rfl sb rfl ?_
    intro k b3 G3 ⟨hk,hG3,hb3,hs3⟩
    have hGl3:=hG3.len
    refine go 8 ?_;refine cb rfl (fun h49 p49=>?_) (fun h49 p49=>?_)
    ·have hlk:k<i:=by omega
     have hiG:i<G3.length:=by omega
     have hkG:k<G3.length:=by omega
     refine go 5 ?_;refine a1h T.mixed ?_;refine a0f 0 rfl rfl (by kernel_rfl) rfl (.refl _) rfl (a0c rfl) ?_;refine a0f 1 rfl rfl (by kernel_rfl) rfl (.refl _) rfl (a0c rfl) ?_;refine a0f 2 rfl rfl (by kernel_rfl) rfl (.refl _) rfl (a0n he rfl rfl rfl (i) (by omega) (by omega)) ?_;refine a0f 3 rfl rfl (by kernel_rfl) rfl (.refl _) rfl (a4w m0 (a2h _) he rfl (i) (by omega) (a4s hiG)) ?_;refine a0f 4 rfl rfl (by kernel_rfl) rfl (.refl _) rfl (a0c rfl) ?_;refine a0f 5 rfl rfl (by kernel_rfl) rfl (.refl _) rfl (a0c rfl) ?_;refine a0f 6 rfl rfl (by kernel_rfl) rfl (.refl _) rfl (a0n he rfl rfl rfl (k) (by omega) (by omega)) ?_;refine a0f 7 rfl rfl (by kernel_rfl) rfl (.refl _) rfl (a4w m0 (a2h _) he rfl (k) (by omega) (a4s hkG)) ?_;refine a0f 8 rfl rfl (by kernel_rfl) rfl (.refl _) rfl (a4e rfl rfl) ?_;refine a0f 9 rfl rfl (by kernel_rfl) rfl (.refl _) rfl (a0c rfl) ?_;refine sxb 61 rfl (fun h61 p61=>?_) (fun h61 p61=>?_)
     ·refine d_t 10 rfl rfl (by kernel_rfl) rfl (fun _ m=>m.keeps (.refl _)) (a1L rfl rfl h61 (a0c rfl)) ?_;refine d_t 11 rfl rfl (by kernel_rfl) rfl (fun _ m=>m.keeps (.refl _)) (a1L rfl rfl h61 (a0c rfl)) ?_;obtain⟨b64,o64,w64,e64,c64,r64⟩:=RdA.at_ hW (i:=i) (by omega);obtain⟨q64,rfl,S64,d64,rfl,hS64,hd64,hm64⟩:=r64;refine d_t 12 rfl rfl (by kernel_rfl) rfl (fun _ m=>m.keeps (.refl _)) (a1L rfl rfl h61 (a0n he rfl rfl e64 (i) (by omega) (by omega))) ?_;refine d_t 13 rfl rfl (by kernel_rfl) rfl (fun _ m=>m.keeps (.refl _)) (a1L rfl rfl h61 (a0W he rfl (c64 0 _ rfl))) ?_;refine d_t 14 rfl rfl (by kernel_rfl) rfl (fun _ m=>m.keeps (.refl _)) (a1L rfl rfl h61 (a0c rfl)) ?_;refine d_t 15 rfl rfl (by kernel_rfl) rfl (fun _ m=>m.keeps (.refl _)) (a1L rfl rfl h61 (a0c rfl)) ?_;obtain⟨b68,o68,w68,e68,c68,r68⟩:=RdA.at_ hW (i:=k) (by omega);obtain⟨q68,rfl,S68,d68,rfl,hS68,hd68,hm68⟩:=r68;refine d_t 16 rfl rfl (by kernel_rfl) rfl (fun _ m=>m.keeps (.refl _)) (a1L rfl rfl h61 (a0n he rfl rfl e68 (k) (by omega) (by omega))) ?_;refine d_t 17 rfl rfl (by kernel_rfl) rfl (fun _ m=>m.keeps (.refl _)) (a1L rfl rfl h61 (a0W he rfl (c68 0 _ rfl))) ?_;refine a0i 18 (by kernel_rfl) rfl ?_;refine a0y rfl rfl h61 (a0a (b0b _ _ W[i] ⟨_,_,rfl,hS64,hd64,hm64⟩ _ W[k] ⟨_,_,rfl,hS68,hd68,hm68⟩) rfl rfl ?_);refine a0r (fun _ m=>m.keeps (.refl _)) ?_;refine a0f 19 rfl rfl (by kernel_rfl) rfl (.refl _) rfl (a8m h61 rfl rfl) ?_;refine a0w (by kernel_rfl) ?_;refine go 1 ?_;refine cb rfl (fun h71 p71=>?_) (fun h71 p71=>?_)
      ·have hM:=hG3.meet hiG hkG (fun h=>p61 (by rw[h])) (b7W hN (by omega) (by omega) hlt (by omega) h71)
       refine go 1 ?_;refine a1h T.mixed ?_;refine a0f 0 rfl rfl (by kernel_rfl) rfl (.refl _) rfl (a0c rfl) ?_;refine a0f 1 rfl rfl (by kernel_rfl) rfl (.refl _) rfl (a0c rfl) ?_;refine a0f 2 rfl rfl (by kernel_rfl) rfl (.refl _) rfl (a0n he rfl rfl rfl (i) (by omega) (by omega)) ?_;refine a0f 3 rfl rfl (by kernel_rfl) rfl (.refl _) rfl (a4w m0 (a2h _) he rfl (i) (by omega) (a4s hiG)) ?_;refine a0f 4 rfl rfl (by kernel_rfl) rfl (.refl _) rfl (a0c rfl) ?_;refine a0f 5 rfl rfl (by kernel_rfl) rfl (.refl _) rfl (a0c rfl) ?_;refine a0f 6 rfl rfl (by kernel_rfl) rfl (.refl _) rfl (a0n he rfl rfl rfl (k) (by omega) (by omega)) ?_;refine a0f 7 rfl rfl (by kernel_rfl) rfl (.refl _) rfl (a4w m0 (a2h _) he rfl (k) (by omega) (a4s hkG)) ?_;refine a0f 8 rfl rfl (by kernel_rfl) rfl (.refl _) rfl (OV.cast (u:=.int .i64 ((min G3[i] G3[k]:Nat):Int)) (d0M rfl rfl) (congrArg (Value.int .i64) (by split<;>omega))) ?_;refine a0f 9 rfl rfl (by kernel_rfl) rfl (.refl _) rfl (a0I rfl) ?_;refine a0w (by kernel_rfl) ?_;refine go 2 ?_;refine a1h T.mixed ?_;refine a0f 0 rfl rfl (by kernel_rfl) rfl (.refl _) rfl (a0c rfl) ?_;refine a0f 1 rfl rfl (by kernel_rfl) rfl (.refl _) rfl (a0c rfl) ?_;refine a0f 2 rfl rfl (by kernel_rfl) rfl (.refl _) rfl (a0n he rfl rfl rfl (i) (by omega) (by omega)) ?_;refine a0f 3 rfl rfl (by kernel_rfl) rfl (.refl _) rfl (a4w m0 (a2h _) he rfl (i) (by omega) (a4s hiG)) ?_;refine a0f 4 rfl rfl (by kernel_rfl) rfl (.refl _) rfl (a0c rfl) ?_;refine a0f 5 rfl rfl (by kernel_rfl) rfl (.refl _) rfl (a0c rfl) ?_;refine a0f 6 rfl rfl (by kernel_rfl) rfl (.refl _) rfl (a0n he rfl rfl rfl (k) (by omega) (by omega)) ?_;refine a0f 7 rfl rfl (by kernel_rfl) rfl (.refl _) rfl (a4w m0 (a2h _) he rfl (k) (by omega) (a4s hkG)) ?_;refine a0f 8 rfl rfl (by kernel_rfl) rfl (.refl _) rfl (OV.cast (u:=.int .i64 ((max G3[i] G3[k]:Nat):Int)) (c8F rfl rfl) (congrArg (Value.int .i64) (by split<;>omega))) ?_;refine a0f 9 rfl rfl (by kernel_rfl) rfl (.refl _) rfl (a0I rfl) ?_;refine a0w (by kernel_rfl) ?_;refine go 8 ?_
       refine a0L (α:=Nat) 0 (fun j=>Ig21)
        (fun j=>[(0,.slice A l.length c0),(3,.slice (some ⟨g18,0,none⟩) l.length l.length),(4,.slice (some ⟨g21,0,none⟩) l.length l.length),(6,.bool b3),(7,.int .i64 ((i:Nat):Int)),(8,.int .i64 ((k:Nat):Int)),(9,.int .i64 (((min G3[i] G3[k]):Nat):Int)),(10,.int .i64 (((max G3[i] G3[k]):Nat):Int)),(11,.int .i64 ((j:Nat):Int))])
        (fun j=>[.blk g18 3 (a5j (a3Z G3 (max G3[i] G3[k]) (min G3[i] G3[k]) j)).flatten])
        (fun j=>j≤l.length)
        (fun j=>l.length-j) (Nat.zero_le _) rfl sb rfl ?_
       intro j hj;refine go 9 ?_;refine cb rfl (fun h93 p93=>?_) (fun h93 p93=>?_)
       ·have hlj:j<l.length:=by omega
        have hjG:j<G3.length:=by omega
        refine go 8 ?_;refine o_v rfl (a0n he rfl rfl rfl (j) (by omega) (by omega)) ?_;refine o_v rfl (OV.cast (u:=.int .i64 ((G3[j]:Nat):Int)) (a4w m0 (a2h _) he rfl (j) (by omega) (a4s (by rw[b0T];omega))) (congrArg (fun z:Nat=>Value.int .i64 (z:Int)) (c0K _ _ _ hjG _))) ?_;refine go 4 ?_;refine cb rfl (fun h101 p101=>?_) (fun h101 p101=>?_)
        ·refine go 4 ?_;refine o_v rfl (a0n he rfl rfl rfl (j) (by omega) (by omega)) ?_;refine go 1 ?_;refine a2b _ (j) (a2h _) he rfl rfl rfl rfl rfl (by omega) (by rw[a3S,b0T];omega) ?_;refine a2K (a5j (a3Z G3 (max G3[i] G3[k]) (min G3[i] G3[k]) (j+1))).flatten (by rw[b3z,b8v hjG (by omega)]) ?_;refine go 9 ?_;exact a0J (j+1) (by omega) (by omega) rfl sb rfl
        ·refine go 9 ?_;exact a0J (j+1) (by omega) (by omega) rfl sb (by rw[c0L hjG (by omega)])
       ·obtain rfl:j=l.length:=by omega
        rw[b8u _ _ _ (by omega)];refine go 16 ?_;exact a1X (k+1) (true) ((a4f G3 (max G3[i] G3[k]) (min G3[i] G3[k]))) ⟨by omega,hM.1,fun h=>(by cases h),fun _=>by have:=hM.2;cases b3<;>simp_all<;>omega⟩ (by omega) rfl sb rfl
      ·refine go 9 ?_;exact a1X (k+1) (b3) (G3) ⟨by omega,hG3,fun h=>⟨(hb3 h).1,(hb3 h).2.next fun _ _ h3 h4=>.inr (b9H hN _ _ h3 h4 (by simpa using h71))⟩,hs3⟩ (by omega) rfl sb rfl
     ·refine d_t 10 rfl rfl (by kernel_rfl) rfl (fun _ m=>m.keeps (.refl _)) (a3h rfl rfl h61) ?_;refine d_t 11 rfl rfl (by kernel_rfl) rfl (fun _ m=>m.keeps (.refl _)) (a3h rfl rfl h61) ?_;refine d_t 12 rfl rfl (by kernel_rfl) rfl (fun _ m=>m.keeps (.refl _)) (a3h rfl rfl h61) ?_;refine d_t 13 rfl rfl (by kernel_rfl) rfl (fun _ m=>m.keeps (.refl _)) (a3h rfl rfl h61) ?_;refine d_t 14 rfl rfl (by kernel_rfl) rfl (fun _ m=>m.keeps (.refl _)) (a3h rfl rfl h61) ?_;refine d_t 15 rfl rfl (by kernel_rfl) rfl (fun _ m=>m.keeps (.refl _)) (a3h rfl rfl h61) ?_;refine d_t 16 rfl rfl (by kernel_rfl) rfl (fun _ m=>m.keeps (.refl _)) (a3h rfl rfl h61) ?_;refine d_t 17 rfl rfl (by kernel_rfl) rfl (fun _ m=>m.keeps (.refl _)) (a3h rfl rfl h61) ?_;refine d_t 18 rfl rfl (by kernel_rfl) rfl (fun _ m=>m.keeps (.refl _)) (a3h rfl rfl h61) ?_;refine a0f 19 rfl rfl (by kernel_rfl) rfl (.refl _) rfl (a8l h61 rfl) ?_;refine a0w (by kernel_rfl) ?_;refine go 1 ?_;refine a0P rfl ?_;refine go 9 ?_;exact a1X (k+1) (b3) (G3) ⟨by omega,hG3,fun h=>⟨(hb3 h).1,(hb3 h).2.next fun _ _ _ _=>.inl (by omega)⟩,hs3⟩ (by omega) rfl sb rfl
    ·obtain rfl:i=k:=by omega
     refine go 12 ?_;exact a1X (i+1) (b3) (G3) ⟨by omega,hG3,fun h=>⟨(hb3 h).1,(hb3 h).2.row⟩,hs3⟩ (by omega) rfl sb rfl
   ·obtain rfl:i=l.length:=by omega
    refine go 6 ?_;exact a0M (b2) (G) ⟨hG,fun h=>(hb2 h).2⟩ (by subst p40;cases b2<;>simp_all<;>omega) rfl sb rfl
  ·have hR:c5w F=R:=(ShTo.rts hF (hb (by simpa using p40))).uniq hRt
   refine go 7 ?_;refine a1s 65 1 ?_;refine go 10 ?_
   refine a5b ((0:Nat)) (_) ([]) (Ig21) (fun i v12 xs J=>J)
    (fun i v12 xs J=>[(0,.slice A l.length c0),(3,.slice (some ⟨g18,0,none⟩) l.length l.length),(12,v12),(13,.int .i64 ((i:Nat):Int))])
    (fun i v12 xs J=>[.row v12 65 1 (a0V R i).length xs,.blk g18 3 (a5j F).flatten])
    (fun i v12 xs J=>i≤l.length∧ILe Ig21 J∧Flat J xs (((a0V R i).map (a0S R l.length)).map nI))
    (fun i v12 xs J=>l.length-i) ⟨Nat.zero_le _,ILe.refl _,.nil⟩ rfl sb rfl ?_
   intro i v12 xs J ⟨hi,hJ,hF5⟩
   have hrl:=b7m (R:=R) (n:=i)
   refine go 9 ?_;refine cb rfl (fun h109 p109=>?_) (fun h109 p109=>?_)
   ·have hlt:i<l.length:=by omega
    have hiG:i<F.length:=by omega
    have hFR:=c0A hR hiG
    refine go 9 ?_;refine o_v rfl (a0n he rfl rfl rfl (i) (by omega) (by omega)) ?_;refine o_v rfl (a4w m1 (a2h _) he rfl (i) (by omega) (a4s hiG)) ?_;refine go 4 ?_;refine cb rfl (fun h117 p117=>?_) (fun h117 p117=>?_)
    ·have hne:¬R i=i:=by omega
     refine go 10 ?_;exact a2U (i+1) (_) (_) (_) ⟨by omega,hJ,by rw[b7n hne];exact hF5⟩ (by omega) rfl sb (by rw[b7n hne])
    ·have heq:R i=i:=by omega
     refine go 4 ?_;refine a1s 3 1 ?_;refine go 11 ?_
     refine a3B (i) (_) ([]) (fun k v14 M=>J)
      (fun k v14 M=>[(0,.slice A l.length c0),(3,.slice (some ⟨g18,0,none⟩) l.length l.length),(12,v12),(13,.int .i64 ((i:Nat):Int)),(14,v14),(15,.int .i64 ((k:Nat):Int))])
      (fun k v14 M=>[.row v14 3 1 (List.length M) (a5j M).flatten,.row v12 65 1 (a0V R i).length xs,.blk g18 3 (a5j F).flatten])
      (fun k v14 M=>i≤k∧k≤l.length∧M=a0S R k i)
      (fun k v14 M=>l.length-k) ⟨Nat.le_refl _,hi,(c0M (n:=0) hRt.le (Nat.le_refl _)).symm⟩ rfl sb rfl ?_
     intro k v14 M ⟨hik,hkl,hM⟩
     have hml:M.length≤k:=by rw[hM];exact c0N
     refine go 9 ?_;refine cb rfl (fun h122 p122=>?_) (fun h122 p122=>?_)
     ·have hlk:k<l.length:=by omega
      have hkG:k<F.length:=by omega
      have hFRk:=c0A hR hkG
      refine go 8 ?_;refine o_v rfl (a0n he rfl rfl rfl (k) (by omega) (by omega)) ?_;refine o_v rfl (a4w m2 (a2h _) he rfl (k) (by omega) (a4s hkG)) ?_;refine go 4 ?_;refine cb rfl (fun h130 p130=>?_) (fun h130 p130=>?_)
      ·have hyes:R k=i:=by omega
       refine go 4 ?_;refine a0e he he rfl rfl rfl rfl rfl rfl rfl (fun v133=>?_);refine go 1 ?_;refine a0g ?_;refine a1r he he rfl rfl rfl rfl rfl (by omega) (by omega) rfl (fun v134=>?_);refine go 10 ?_;refine a0g ?_;refine a0b ?_;exact a1X (k+1) (_) (M++[k]) ⟨by omega,by omega,by rw[c3J hyes,hM]⟩ (by omega) rfl sb (by rw[List.length_append,←b3A];rfl)
      ·have hno:¬R k=i:=by omega
       refine go 9 ?_;exact a1X (k+1) (_) (M) ⟨by omega,by omega,by rw[c7w hno];exact hM⟩ (by omega) rfl sb rfl
     ·obtain rfl:k=l.length:=by omega
      refine go 7 ?_;refine a0o (l:=(nI M)) rfl (by rw[a4X]) (c0S M) (fun Ip jp Rp=>?_);refine go 2 ?_;rw[hM]at Rp
      obtain⟨A14,c14,rfl,_,_⟩:=id Rp;refine a0e he he rfl rfl rfl rfl rfl rfl rfl (fun v137=>?_);refine go 1 ?_;refine a0g ?_;refine a1r he he rfl rfl rfl rfl rfl (by omega) (by omega) rfl (fun v138=>?_);refine go 10 ?_;refine a0g ?_;refine a0b ?_;exact a2U (i+1) (_) (_) (_) ⟨by omega,hJ.trans jp,by rw[b3Z heq,List.map_append,List.map_append];exact (hF5.le jp).append (.one ⟨_,rfl,Rp⟩)⟩ (by omega) rfl sb (by rw[b3Z heq,List.length_append];rfl)
   ·obtain rfl:i=l.length:=by omega
    refine go 12 ?_;refine a0x rfl rfl ?_;refine a0g ?_;refine a0b ?_;refine a0o (l:=(a5S R l.length).map nI) rfl (by rw[List.length_map,b9I]) hF5 (fun I9 j9 R9=>?_);exact q_i R9
end Go.Proofs.YtdapmfkbpnjkmaaGreat
set_option linter.all false
namespace Go.Sx
open Go
def a9M (P:Program) (t:TypeId) (name:String):Option FuncId:=
 match P.info? t,P.underlying t with
 |some i,some (.struct _)=>match i.methods.find? (·.name == name) with
  |some m=>match m.path.toList,m.func with
   | [],some (f,false)=>some f
   |_,_=>none
  |none=>none
 |_,_=>none
theorem b0W {P:Program} {t:TypeId} {name:String} {f:FuncId} (h:a9M P t name=some f):∃i fs m,P.info? t=some i∧P.underlying t=some (.struct fs)∧i.methods.find? (·.name == name)=some m∧m.path.toList=[]∧m.func=some (f,false):=by
 unfold a9M at h
 split at h
 ·rename_i i fs h1 h2
  split at h
  ·rename_i m h3
   split at h
   ·rename_i h4 h5
    cases h
    exact⟨i,fs,m,h1,h2,h3,h4,h5⟩
   ·cases h
  ·cases h
 ·cases h
theorem b8N {P:Program} {t:TypeId} {name:String} {f:FuncId} (h:a9M P t name=some f) (v:Value) (w:World) (k:Nat):(method (k+1) t v name).run P w = .ok (f,v) w:=by
 obtain⟨i,fs,m,h1,h2,h3,h4,h5⟩:=b0W h
 have hti:(typeInfo t).run P w = .ok i w:=by simp[typeInfo,h1]
 simp only[method,Sem.run_bind,hti,Result.andThen_ok,h3,h4,follow,Sem.run_pure,h5,receiverAt,run_underlying h2,Place.get]
theorem b4b {P:Program} {t:TypeId} {name:String} {f:FuncId} (h:a9M P t name=some f) (v:Value) (w:World) (k:Nat):(nilAhead (k+1) t v name).run P w = .ok (some false) w:=by
 obtain⟨i,fs,m,h1,h2,h3,h4,h5⟩:=b0W h
 have hti:(typeInfo t).run P w = .ok i w:=by simp[typeInfo,h1]
 simp only[nilAhead,Sem.run_bind,hti,Result.andThen_ok,h3,h4,followBlind,Sem.run_pure,h5,run_underlying h2]
section
variable {P:Program} {n:Sz} {E:Ent} {I:IMap} {L:LL} {H:List Res} {Q:Exit→Act→World→Prop} {ops:Array Oper} {K:Act→World→Prop}
variable {d ty tx tyy:Nat} {pos:String} {af:Array Edge} {x y:Operand}
theorem b8M {a:Act} {w:World} {as_:List Operand} {ats:Array TypeId} {t:TypeId} {name:String} {f:FuncId} {v:Value} {vs:List Value} (s:St n a L) (hm:a9M P t name=some f) (hx:ev L x=some (.iface t v)) (hv:evs L as_=some vs) (o:Oper)
  (ho:o.op = .call { callee:=.invoke x name,args:=as_.toArray,argTypes:=ats }):(execOp a.eval o).run P w=(callFunc f (v::vs).toArray).run P w:=by
 have ha:as_.toArray.map a.eval=vs.toArray:=by rw[←a6j s as_ vs hv];simp
 have hd:∃q,P.types.size+Made.depth=q+1:=⟨P.types.size+99,rfl⟩
 obtain⟨q,hq⟩:=hd
 have e1:(#[Value.iface t v]++vs.toArray)[0]? = some (Value.iface t v):=by simp
 have e2:(#[Value.iface t v]++vs.toArray).extract 1 (#[Value.iface t v]++vs.toArray).size=vs.toArray:=by simp[List.extract]
 simp only[execOp,ho,resolve,ha,s.ev hx,Sem.run_bind,Sem.run_pure,Result.andThen_ok,invoke,e1,e2,callMethod,run_program,hq,b8N hm]
 simp
theorem b6S {u:Value} {as_:List Operand} {ats:Array TypeId} {t:TypeId} {name:String} {f:FuncId} {v:Value} {vs:List Value} (hm:a9M P t name=some f) (hc:FnV P f (v::vs).toArray I u) (hx:ev L x=some (.iface t v)) (hv:evs L as_=some vs) (hd:Nat.blt d n.sz=true)
  (k:SX n E I ((d,u)::L) H K):SX n E I L H (one P ops Q ⟨some d,.call { callee:=.invoke x name,args:=as_.toArray,argTypes:=ats },ty,pos,af,none⟩ K):=
 b5k (Hc:=[]) hc.go (fun a w s=>b8M s hm hx hv _ rfl) hd fun v I' H' hI hp=>by obtain⟨rfl,rfl,rfl⟩:=hp;exact k
theorem b4p {t:TypeId} {name:String} {f:FuncId} {v:Value} {cs:Array Value} (hm:a9M P t name=some f) (hx:ev L x=some (.func (.method name) #[.iface t v] cs)):OV P n E I L H ⟨some d,.nilCheck x,ty,pos,af,none⟩ (.func (.method name) #[.iface t v] cs):=
 (fun a w s _=>by
  have hd:∃q,P.types.size+Made.depth=q+1:=⟨P.types.size+99,rfl⟩
  obtain⟨q,hq⟩:=hd
  simp only[execOp,s.ev hx,Sem.run_bind,run_program,Result.andThen_ok,List.getElem?_toArray,List.getElem?_cons_zero,hq,b4b hm,bne_self_eq_false,Bool.false_eq_true,if_false,Sem.run_pure])
theorem c8E {v:Value} {tt:Nat} (ht:b0f P tt=true) (hx:ev L x=some v):OV P n E I L H ⟨some d,.makeInterface tt x,ty,pos,af,none⟩ (.iface tt v):=
 (fun a w s _=>by
  unfold b0f at ht
  split at ht
  ·rename_i fs h1;simp[execOp,s.ev hx,Instr.makeInterface,run_underlying h1]
  ·cases ht)
theorem c8G {i:Int} (hx:ev L x=some (.int .i64 i)) (hb:I64 (-i)):OV P n E I L H ⟨some d,.unOp .neg tx x,ty,pos,af,none⟩ (.int .i64 (-i)):=
 (fun a w s _=>by
  have e:0-i = -i:=by omega
  simp[execOp,s.ev hx,Op.unary,Op.intArith,e];exact IntWalk.i64_in _ ⟨hb.1,hb.2⟩)
theorem d1Y {i j:Int} (hx:ev L x=some (.int .i64 i)) (hy:ev L y=some (.int .i64 j)) (hj:j≠0) (hb:I64 (i.tdiv j)):OV P n E I L H ⟨some d,.binOp .quo tx x y tyy,ty,pos,af,none⟩ (.int .i64 (i.tdiv j)):=
 (fun a w s _=>by
  simp only[execOp,s.ev hx,s.ev hy,eqGuard_at_int,binOp_quo,Op.intDiv,Sem.run_bind,if_neg hj]
  simp;exact IntWalk.i64_in _ ⟨hb.1,hb.2⟩)
theorem c2d {q:Nat} (hq:q<18446744073709551616) (hx:ev L x=some (.int .u64 ((q:Nat):Int))):OV P n E I L H ⟨some d,.binOp .and tx x (.const (.int .u64 4294967295)) tyy,ty,pos,af,none⟩ (.int .u64 ((q % 4294967296:Nat):Int)):=
 (fun a w s _=>by
  have h:=bits_and_u64_nat q 4294967295 hq (by omega)
  have e:q &&& 4294967295=q % 4294967296:=Nat.and_two_pow_sub_one_eq_mod q 32
  rw[e]at h
  have hy:a.eval (.const (.int .u64 4294967295)) = .int .u64 4294967295:=rfl
  have h2:Op.intBits .and .u64 (q:Int) 4294967295=pure (.int .u64 ((q % 4294967296:Nat):Int)):=by rw[←h];rfl
  simp only[execOp,s.ev hx,hy,eqGuard_at_int,binOp_and,h2,Sem.run_bind]
  rfl)
theorem c2a {q:Nat} {kk:IntKind} (hx:ev L x=some (.int .u64 ((q:Nat):Int))):OV P n E I L H ⟨some d,.binOp .shr tx x (.const (.int kk 32)) tyy,ty,pos,af,none⟩ (.int .u64 ((q / 4294967296:Nat):Int)):=
 (fun a w s _=>by
  have h:=shift_shr_any .u64 kk (q:Int) 32 (by omega)
  have hy:a.eval (.const (.int kk 32)) = .int kk 32:=rfl
  have e:(q:Int) / 2 ^ min (32:Int).toNat IntKind.u64.bits=((q / 4294967296:Nat):Int):=by
   rw[show min (32:Int).toNat IntKind.u64.bits=32 from rfl]
   show (q:Int) / 4294967296=_
   omega
  rw[e]at h
  have hb:binOp .shr tx (.int .u64 (q:Int)) (.int kk 32)=pure (.int .u64 ((q / 4294967296:Nat):Int)):=h
  simp[execOp,s.ev hx,hy,eqGuard_shr,hb])
theorem b7F {q r:Nat} (hx:ev L x=some (.int .u64 ((q:Nat):Int))) (hy:ev L y=some (.int .u64 ((r:Nat):Int))) (hb:q+r<18446744073709551616):OV P n E I L H ⟨some d,.binOp .add tx x y tyy,ty,pos,af,none⟩ (.int .u64 ((q+r:Nat):Int)):=
 (fun a w s _=>by
  have e:IntKind.u64.wrap ((q:Int)+(r:Int))=((q+r:Nat):Int):=by rw[IntKind.wrap_u64];omega
  simp[execOp,s.ev hx,s.ev hy,eqGuard_at_int,binOp_add,Op.intArith,e])
theorem b7G {q r:Nat} (hx:ev L x=some (.int .u64 ((q:Nat):Int))) (hy:ev L y=some (.int .u64 ((r:Nat):Int))) (hb:q * r<18446744073709551616):OV P n E I L H ⟨some d,.binOp .mul tx x y tyy,ty,pos,af,none⟩ (.int .u64 ((q * r:Nat):Int)):=
 (fun a w s _=>by
  have e0:(q:Int) * (r:Int)=((q * r:Nat):Int):=(Int.natCast_mul q r).symm
  have e:IntKind.u64.wrap ((q:Int) * (r:Int))=((q * r:Nat):Int):=by rw[e0,IntKind.wrap_u64];omega
  simp[execOp,s.ev hx,s.ev hy,eqGuard_at_int,binOp_mul,Op.intArith,e])
theorem d0L {i j:Int} (hx:ev L x=some (.int .i64 i)) (hy:ev L y=some (.int .i64 j)):OV P n E I L H ⟨some d,.binOp .add tx x y tyy,ty,pos,af,none⟩ (.int .i64 (IntKind.i64.wrap (i+j))):=
 (fun a w s _=>by simp[execOp,s.ev hx,s.ev hy,eqGuard_at_int,binOp_add,Op.intArith])
theorem d0N {q r:Nat} (hx:ev L x=some (.int .u64 ((q:Nat):Int))) (hy:ev L y=some (.int .u64 ((r:Nat):Int))):OV P n E I L H ⟨some d,.binOp .mul tx x y tyy,ty,pos,af,none⟩ (.int .u64 ((q * r % 18446744073709551616:Nat):Int)):=
 (fun a w s _=>by
  have e0:(q:Int) * (r:Int)=((q * r:Nat):Int):=(Int.natCast_mul q r).symm
  have e:IntKind.u64.wrap ((q:Int) * (r:Int))=((q * r % 18446744073709551616:Nat):Int):=by rw[e0,IntKind.wrap_u64];omega
  simp[execOp,s.ev hx,s.ev hy,eqGuard_at_int,binOp_mul,Op.intArith,e])
end
end Go.Sx
set_option linter.all false
namespace Go.Sx
open Go
def b5i (l:List Int):Nat→Int
 |0=>l[0]?.getD 0
 |i+1=>if l[i+1]?.getD 0<b5i l i then l[i+1]?.getD 0 else b5i l i
def b5h (l:List Int):Nat→Int
 |0=>l[0]?.getD 0
 |i+1=>if l[i+1]?.getD 0>b5h l i then l[i+1]?.getD 0 else b5h l i
section
variable {l:List Int} {i:Nat}
theorem c0Q (h:0<l.length):b5i l 0=l[0]:=by simp[b5i,h]
theorem c0H (h:0<l.length):b5h l 0=l[0]:=by simp[b5h,h]
theorem c0P (h:i+1<l.length):(if l[i+1]<b5i l i then l[i+1] else b5i l i)=b5i l (i+1):=by simp[b5i,h]
theorem c0G (h:i+1<l.length):(if l[i+1]>b5h l i then l[i+1] else b5h l i)=b5h l (i+1):=by simp[b5h,h]
end
theorem c9W (a b:Int):(if b<a then b else a)=min a b:=by omega
theorem c9T (a b:Int):(if b>a then b else a)=max a b:=by omega
theorem c9V (a b c d:Int):b5i [a,b,c,d] 3=min (min (min a b) c) d:=by
 show (if d<(if c<(if b<a then b else a) then c else (if b<a then b else a)) then d else (if c<(if b<a then b else a) then c else (if b<a then b else a)))=_
 simp only[c9W]
theorem c9S (a b c d:Int):b5h [a,b,c,d] 3=max (max (max a b) c) d:=by
 show (if d>(if c>(if b>a then b else a) then c else (if b>a then b else a)) then d else (if c>(if b>a then b else a) then c else (if b>a then b else a)))=_
 simp only[c9T]
theorem c6c {f:Int→Int→Int} {a b:Ivl} (h:(!a2n a || !a2n b)=true):b0r f a b=a4R:=if_pos h
theorem c2J {f:Int→Int→Int} {a b:Ivl} (h:(!a2n a || !a2n b)=false):b0r f a b=⟨b5i [f a.low b.low,f a.low b.high,f a.high b.low,f a.high b.high] 3,b5h [f a.low b.low,f a.low b.high,f a.high b.low,f a.high b.high] 3⟩:=by
 unfold b0r;rw[if_neg (by rw[h];decide),c9V,c9S]
theorem c6b {a b:Ivl} (h:(!a2n a || !a2n b)=false):((-(1000000000000:Int)≤a.low∧a.low≤(1000000000000:Int))∧(-(1000000000000:Int)≤a.high∧a.high≤(1000000000000:Int)))∧((-(1000000000000:Int)≤b.low∧b.low≤(1000000000000:Int))∧(-(1000000000000:Int)≤b.high∧b.high≤(1000000000000:Int))):=by
 simp only[Bool.or_eq_false_iff,Bool.not_eq_false']at h
 have h1:=a1e.1 h.1
 have h2:=a1e.1 h.2
 omega
theorem c7l {a b:Ivl} (h:(!a2n a || !a2n b)=true):a2R a b=a4R:=if_pos h
theorem c3C {a b:Ivl} (h:(!a2n a || !a2n b)=false):a2R a b=⟨b5i [a.low,a.high,b.low,b.high] 3,b5h [a.low,a.high,b.low,b.high] 3⟩:=by
 have hn:¬(!a2n a || !a2n b)=true:=by rw[h];decide
 simp only[Bool.or_eq_false_iff,Bool.not_eq_false']at h
 have h1:=a1e.1 h.1
 have h2:=a1e.1 h.2
 unfold a2R;rw[if_neg hn,c9V,c9S]
 congr 1<;>omega
theorem c8h {a b:Int} (h:(!(decide (a<0) == decide (b<0)))=true) : -(min ((a.natAbs * b.natAbs:Nat):Int) (1000000000000:Int))=b1r (a * b):=by
 have e:(((a.natAbs * b.natAbs:Nat)):Int)=((a * b).natAbs:Int):=by rw[Int.natAbs_mul]
 rw[e];unfold b1r
 by_cases ha:a<0<;>by_cases hb:b<0
 ·simp[ha,hb]at h
 ·have:a * b≤0:=Int.mul_nonpos_of_nonpos_of_nonneg (by omega) (by omega)
  omega
 ·have:a * b≤0:=Int.mul_nonpos_of_nonneg_of_nonpos (by omega) (by omega)
  omega
 ·simp[ha,hb]at h
theorem c8i {a b:Int} (h:(!(decide (a<0) == decide (b<0)))=false):(min ((a.natAbs * b.natAbs:Nat):Int) (1000000000000:Int))=b1r (a * b):=by
 have e:(((a.natAbs * b.natAbs:Nat)):Int)=((a * b).natAbs:Int):=by rw[Int.natAbs_mul]
 rw[e];unfold b1r
 by_cases ha:a<0<;>by_cases hb:b<0
 ·have:=Int.mul_nonneg_of_nonpos_of_nonpos (a:=a) (b:=b) (by omega) (by omega)
  omega
 ·simp[ha,hb]at h
 ·simp[ha,hb]at h
 ·have:=Int.mul_nonneg (a:=a) (b:=b) (by omega) (by omega)
  omega
theorem c8w {a b:Int}:(a.tdiv b).natAbs≤a.natAbs∧(a.tdiv b * b).natAbs≤a.natAbs:=by
 have h1:(a.tdiv b).natAbs≤a.natAbs:=by rw[Int.natAbs_tdiv];exact Nat.div_le_self _ _
 refine⟨h1,?_⟩;rw[Int.natAbs_mul,Int.natAbs_tdiv];exact Nat.div_mul_le_self _ _
def a9B (a b:Int):Bool:=!decide (a.tdiv b * b=a) && !(decide (a<0) == decide (b<0))
theorem c6W {a b:Int} (h:b=0):a3Y a b=0:=if_pos h
theorem c6V {a b:Int} (h:¬b=0) (h2:a9B a b=true):a.tdiv b-1=a3Y a b:=by
 unfold a3Y
 simp only[a9B,Bool.and_eq_true,Bool.not_eq_true',decide_eq_false_iff_not]at h2
 rw[if_neg h,if_pos ⟨h2.1,by cases h1:decide (a<0)<;>cases h3:decide (b<0)<;>simp_all⟩]
theorem c6U {a b:Int} (h:¬b=0) (h2:a9B a b=false):a.tdiv b=a3Y a b:=by
 unfold a3Y;rw[if_neg h,if_neg];rintro⟨h3,h4⟩
 simp only[a9B]at h2
 cases h1:decide (a<0)<;>cases h5:decide (b<0)<;>simp_all
section
variable {f:Fm} {n m:Int} {i:Nat}
theorem b9G:∀{ks:List Fm} {k:Fm},k∈ks→cntN k≤cntNL ks
 | [],k,h=>by cases h
 |x::ks,k,h=>by
  simp only[cntNL]
  rcases List.mem_cons.1 h with rfl|h
  ·omega
  ·have:=b9G h;omega
theorem a5R {k:Fm} (h:k∈f.kids):cntN k<cntN f:=by
 obtain⟨op,n,kids⟩:=f
 have:=b9G (show k∈kids from h)
 simp only[cntN];omega
theorem a9P:nodesL (f.kids.drop 0) 1 m=nodesF f m:=by cases f;rfl
theorem b1a (hi:i<f.kids.length) (h:nodesL (f.kids.drop i) n m=nodesF f m) (hn:¬n>m):nodesL (f.kids.drop (i+1)) (n+nodesF f.kids[i] (m-n)) m=nodesF f m:=by
 rw[List.drop_eq_getElem_cons hi]at h
 rw[←h];simp only[nodesL,if_neg hn]
theorem b1b (hi:i<f.kids.length) (h:nodesL (f.kids.drop i) n m=nodesF f m) (hn:n>m):n=nodesF f m:=by
 rw[List.drop_eq_getElem_cons hi]at h
 rw[←h];simp only[nodesL,if_pos hn]
theorem b3D (hi:¬i<f.kids.length) (h:nodesL (f.kids.drop i) n m=nodesF f m):n=nodesF f m:=by
 rw[List.drop_eq_nil_of_le (by omega)]at h
 rw[←h];rfl
def b2Q (f:Fm):Bool:=decide (f.op<1)||decide (f.op>11)
def b0q (f:Fm):Bool:=((!decide ((f.kids.length:Int)=a8p f.op)||decide (f.n<0))||decide (f.n>9999999))||(decide (f.n>0) && !decide (f.op=1))
theorem a9f:rightF f=(!b2Q f&&(!b0q f&&a3A (fun _ k=>rightF k) f.kids f.kids.length)):=by
 have hl:∀ks:List Fm,rightL ks=ks.all rightF:=fun ks=>by
  induction ks with
  |nil=>rfl
  |cons x ks ih=>simp only[rightL,List.all_cons,ih]
 have ha:∀ks:List Fm,a3A (fun _ k=>rightF k) ks ks.length=ks.all rightF:=fun ks=>by
  rw[Bool.eq_iff_iff]
  constructor
  ·intro h;rw[List.all_eq_true];intro x hx;obtain⟨pre,h1⟩:=a4S h hx;exact h1
  ·intro h;rw[List.all_eq_true]at h
   unfold a3A;rw[List.all_eq_true];intro i hi
   cases hq:ks[i]? with
   |none=>rfl
   |some x=>exact h x (List.mem_of_getElem? hq)
 obtain⟨op,n,kids⟩:=f;rw[ha]
 simp only[rightF,hl,b2Q,b0q,Fm.op,Fm.n,Fm.kids,ne_eq,decide_not,Bool.and_assoc]
 rfl
theorem c1t (h1:b2Q f=false) (h2:b0q f=false) (h3:a3A (fun _ k=>rightF k) f.kids f.kids.length=true):rightF f=true:=by rw[a9f,h1,h2,h3];rfl
theorem c4w (h1:b2Q f=true):rightF f=false:=by rw[a9f,h1];rfl
theorem c4x (h1:b0q f=true):rightF f=false:=by rw[a9f,h1];simp
theorem c1u (h1:i<f.kids.length) (h:rightF f.kids[i]=false):rightF f=false:=by rw[a9f,a1A (f:=fun _ k=>rightF k) h1 h];simp
theorem a7C (h:rightF f=true):(1≤f.op∧f.op≤11)∧(f.kids.length:Int)=a8p f.op∧(0≤f.n∧f.n≤9999999)∧∀k∈f.kids,rightF k=true:=by
 cases f;exact a7B h
theorem a4J (h:rightF f=true) (i:Nat) (hi:i<f.kids.length):rightF f.kids[i]=true:=(a7C h).2.2.2 _ (List.getElem_mem hi)
theorem d2c {l:List Fm} (h:l.length=0):l=[]:=List.eq_nil_of_length_eq_zero h
theorem c4J (h:rightF f=true) (h1:f.op=1) (u:Use):a3g u f=⟨f.n,f.n⟩:=by
 have h2:=(a7C h).2.1
 obtain⟨op,n,kids⟩:=f;obtain rfl:op=1:=h1;obtain rfl:kids=[]:=d2c (by simpa[a8p,Fm.op,Fm.kids]using h2)
 simp[a3g,Fm.n]
theorem b5I (h:rightF f=true) (h1:¬f.op=1) (h4:f.op≤4) (u:Use):a3g u f=a6K u f.op:=by
 have h2:=(a7C h).2.1
 obtain⟨op,n,kids⟩:=f
 have g1:¬op=1:=h1
 have g4:op≤4:=h4
 obtain rfl:kids=[]:=d2c (by
  have:(kids.length:Int)=a8p op:=h2
  unfold a8p at this
  rw[if_neg (by omega),if_neg (by omega)]at this
  omega)
 show (if op=1 then _ else _)=_
 rw[if_neg g1];rfl
theorem d1H (h:rightF f=true) (h1:f.op=11):f.kids.length=3:=by
 have h2:=(a7C h).2.1
 rw[h1]at h2
 have e:a8p 11=3:=by decide
 rw[e]at h2;omega
theorem d1G (h:rightF f=true) (h1:¬f.op=11) (h4:¬f.op≤4):f.kids.length=2:=by
 have h2:=(a7C h).2.1
 unfold a8p at h2
 rw[if_neg h1,if_pos (by omega)]at h2
 omega
theorem c8o (h3:f.kids.length=3) (u:Use):a3g u f=a6C (a3g u f.kids[0]) (a3g u f.kids[1]) (a3g u f.kids[2]):=by
 obtain⟨op,n,kids⟩:=f
 have h3:kids.length=3:=h3
 match kids,h3 with
 | [a,b,c],_=>simp only[a3g,Fm.kids];rfl
theorem c4K (h3:f.kids.length=2) (u:Use):a3g u f=a5Q f.op (a3g u f.kids[0]) (a3g u f.kids[1]):=by
 obtain⟨op,n,kids⟩:=f
 have h3:kids.length=2:=h3
 match kids,h3 with
 | [a,b],_=>simp only[a3g,Fm.kids];rfl
end
theorem a5d {I:IMap} {s:Value} {k:Fm} (h:RdS I s k.kids):FmRd I [ci k.op,ci k.n,s] k:=by cases k;exact fm_in _ _ h
def c2o (l:List Ivl):List Value:=l.flatMap Ivl.cells
theorem b3p {I:IMap} (l:List Ivl):Flat I (c2o l) l:=by
 induction l with
 |nil=>exact .nil
 |cons x l ih=>exact .cons rfl ih
theorem c3y (l m:List Ivl):c2o (l++m)=c2o l++c2o m:=List.flatMap_append
theorem c3z (x:Ivl):c2o [x]=x.cells:=by simp[c2o]
theorem RdS.rda {α:Type} [Enc α] {I:IMap} {A:Option Addr} {m c:Nat} {l:List α} (h:RdS I (.slice A m c) l):RdA I A l:=by
 obtain⟨_,_,e,h,_⟩:=h;cases e;exact h
theorem b1t (a:Ivl) (x y:Int):(a3f a x y).length≤2:=by unfold a3f;split<;>simp
theorem c9w {a b:Ivl} (h:0<(a4v a b).length):c8M a b=(a4v a b).foldl a2R (a4v a b)[0]:=by
 have hd:∀(l:List Ivl) (h:0<l.length),l.headD a4R=l[0]:=fun l h=>by cases l with|nil=>simp at h|cons x l=>rfl
 unfold c8M;rw[hd _ h]
theorem d0H {u:Use} {i:Nat} (h:i<3) (hb:a8j ([u.km,u.cycles,u.load][i])=false):a8k u=false:=by
 have h3:i=0∨i=1∨i=2:=by omega
 rcases h3 with rfl|rfl|rfl<;>(simp at hb;simp[a8k,hb])
theorem c8B {u:Use} (h:a3A (fun _ q=>a8j q) [u.km,u.cycles,u.load] 3=true):a8k u=true:=by
 unfold a3A at h
 rw[List.all_eq_true]at h
 have h0:=h 0 (by simp)
 have h1:=h 1 (by simp)
 have h2:=h 2 (by simp)
 simp at h0 h1 h2
 simp[a8k,h0,h1,h2]
theorem c9u {f:Fm} {u:Use} (h:a8k u=false):b0p f u=a4R:=by unfold b0p;rw[if_pos h]
theorem c6F {f:Fm} {u:Use} (h:a8k u=true) (hv:a1G f=false):b0p f u=a4R:=by unfold b0p;rw[if_neg (by rw[h];decide),if_pos hv]
theorem c6G {f:Fm} {u:Use} (h:a8k u=true) (hv:a1G f=true):b0p f u=⟨max 0 (a3g u f).low,max 0 (a3g u f).high⟩:=by unfold b0p;rw[if_neg (by rw[h];decide),if_neg (by rw[hv];decide)]
theorem b8h {l:List Ivl} {z:Ivl} {i:Nat} (h:i<l.length):(l.take (i+1)).foldl a2R z=a2R ((l.take i).foldl a2R z) l[i]:=by
 rw[←a0q h,List.foldl_append];rfl
section
variable {P:Program} {ρ:Option Nat} {n:Sz} {E:Ent} {I I':IMap} {L:LL} {H H0:List Res} {Q:Exit→Act→World→Prop} {ops:Array Oper} {K:Act→World→Prop}
variable {d ty:Nat} {pos:String} {af:Array Edge} {fo:Operand} {as_:List Operand} {ats:Array TypeId} {f:FuncId} {args:List Value} {r1 r2 r3:Res}
theorem b6R {post:Value→IMap→List Res→Prop} (hc:FnH P f args.toArray I [r1,r2,r3] post) (h:a1P L fo as_=some (f,args)) (hd:Nat.blt d n.sz=true)
  (k:∀v I' H',ILe I I'→post v I' H'→SX n E I' ((d,v)::L) (H'++H0) K) :
  SX n E I L (r1::r2::r3::H0) (one P ops Q ⟨some d,.call { callee:=.value fo,args:=as_.toArray,argTypes:=ats },ty,pos,af,none⟩ K):=a3M (Hc:=[r1,r2,r3]) hc h hd k
theorem b7A {a b c:Res} (h:SX n E I L (a::b::c::H) K):SX n E I L ([a,b,c]++H) K:=h
end
end Go.Sx
namespace Go.Proofs.YtdapmfkbpnjkmaaGreat
open Go Go.Sx
set_option linter.all false
set_option maxRecDepth 20000
set_option maxHeartbeats 4000000
instance T.by_44:Has (a2y Tryz.prog 44) ([.int .i64 0,.int .i64 0],2,16):=⟨by kernel_rfl⟩
instance T.elt_235:Has (a8D Tryz.prog 235) (44,2):=⟨by kernel_rfl⟩
instance T.elt_320:Has (a8D Tryz.prog 320) (270,1):=⟨by kernel_rfl⟩
instance T.elt_68:Has (a8D Tryz.prog 68) (70,3):=⟨by kernel_rfl⟩
instance T.fld_238_0:Has (a3G Tryz.prog 238 0) (0,true,6):=⟨by kernel_rfl⟩
instance T.fld_70_0:Has (a3G Tryz.prog 70 0) (0,false,1):=⟨by kernel_rfl⟩
instance T.fld_70_1:Has (a3G Tryz.prog 70 1) (1,false,1):=⟨by kernel_rfl⟩
instance T.fld_70_2:Has (a3G Tryz.prog 70 2) (2,false,1):=⟨by kernel_rfl⟩
instance T.mth_238_374 : Has (a9M Tryz.prog 238 "bogie/formula.apply") 374 := ⟨by kernel_rfl⟩
instance T.mth_238_375 : Has (a9M Tryz.prog 238 "bogie/formula.choose") 375 := ⟨by kernel_rfl⟩
instance T.mth_238_376 : Has (a9M Tryz.prog 238 "bogie/formula.letter") 376 := ⟨by kernel_rfl⟩
instance T.mth_238_377 : Has (a9M Tryz.prog 238 "bogie/formula.number") 377 := ⟨by kernel_rfl⟩
instance T.pl_238:Has (plK Tryz.prog 238) [(0,6)]:=⟨by kernel_rfl⟩
instance T.pl_44:Has (plK Tryz.prog 44) [(0,1),(1,1)]:=⟨by kernel_rfl⟩
theorem T.stk_238:b0f Tryz.prog 238=true:=by kernel_rfl
instance T.ty_235:Has (tyK Tryz.prog 235) (false,1):=⟨by kernel_rfl⟩
instance T.ty_270:Has (tyK Tryz.prog 270) (false,1):=⟨by kernel_rfl⟩
instance T.ty_68:Has (tyK Tryz.prog 68) (false,1):=⟨by kernel_rfl⟩
instance T.ty_70:Has (tyK Tryz.prog 70) (true,3):=⟨by kernel_rfl⟩
instance T.und_235:Has (Tryz.prog.underlying 235) (.slice 44):=⟨by kernel_rfl⟩
instance T.und_270:Has (Tryz.prog.underlying 270) (.int .i64):=⟨by kernel_rfl⟩
instance T.und_320:Has (Tryz.prog.underlying 320) (.slice 270):=⟨by kernel_rfl⟩
instance T.und_68:Has (Tryz.prog.underlying 68) (.slice 70):=⟨by kernel_rfl⟩
instance T.zero_235:Has (a1Z Tryz.prog 235) [.slice none 0 0]:=⟨by kernel_rfl⟩
instance T.zero_238:Has (a1Z Tryz.prog 238) [.int .i64 0,.int .i64 0,.int .i64 0,.int .i64 0,.int .i64 0,.int .i64 0]:=⟨by kernel_rfl⟩
instance T.zero_270:Has (a1Z Tryz.prog 270) [.int .i64 0]:=⟨by kernel_rfl⟩
instance T.zero_44:Has (a1Z Tryz.prog 44) [.int .i64 0,.int .i64 0]:=⟨by kernel_rfl⟩
instance T.zero_70:Has (a1Z Tryz.prog 70) [.int .i64 0,.int .i64 0,.slice none 0 0]:=⟨by kernel_rfl⟩
theorem a9I (I:IMap) (x:Ivl) :
    FnV Tryz.prog 203 #[.agg x.cells.toArray] I (.bool (a2n x)):=by
 refine enter Tryz.func203 Tryz.call203 rfl Tryz.ntmps203 rfl (fun w0=>?_);refine go 3 ?_;refine a0B _ rfl rfl rfl (fun g1=>?_);refine go 9 ?_;refine sxb 6 rfl (fun h6 p6=>?_) (fun h6 p6=>?_)
 ·refine go 7 ?_;refine sxb 13 rfl (fun h13 p13=>?_) (fun h13 p13=>?_)
  ·refine go 8 ?_;refine a0x rfl rfl ?_;exact q_v (congrArg Value.bool (by simp only[a2n,h6,h13,bS]))
  ·refine go 8 ?_;refine a0x rfl rfl ?_;exact q_v (congrArg Value.bool (by simp only[a2n,h6,h13,bS]))
 ·refine go 15 ?_;refine a0x rfl rfl ?_;exact q_v (congrArg Value.bool (by simp only[a2n,h6,bS]))
theorem c9N (I:IMap) (n:Int) :
    FnV Tryz.prog 282 #[.int .i64 (n)] I (.int .i64 (b1r n)):=by
 refine enter Tryz.func282 Tryz.call282 rfl Tryz.ntmps282 rfl (fun w0=>?_);refine go 8 ?_;refine o_v rfl (OV.cast (u:=.int .i64 (min n (1000000000000:Int))) (b0i rfl rfl) (congrArg (Value.int .i64) (by omega))) ?_;refine o_v rfl (OV.cast (u:=.int .i64 (b1r n)) (a5M rfl rfl) (congrArg (Value.int .i64) (by unfold b1r;omega))) ?_;refine go 4 ?_;refine a0x rfl rfl ?_;exact q_v rfl
theorem c7j (I:IMap) (a b:Int) (ha : -(1000000000000:Int)≤a∧a≤(1000000000000:Int)) (hb : -(1000000000000:Int)≤b∧b≤(1000000000000:Int)) :
    FnV Tryz.prog 228 #[.int .i64 (a),.int .i64 (b)] I (.int .i64 (b1r (a+b))):=by
 refine enter Tryz.func228 Tryz.call228 rfl Tryz.ntmps228 rfl (fun w0=>?_);refine go 11 ?_;refine a0a (c9N _ _) rfl rfl ?_;refine go 4 ?_;refine a0x rfl rfl ?_;exact q_v rfl
theorem c3A (I:IMap) (a b:Int) (ha : -(1000000000000:Int)≤a∧a≤(1000000000000:Int)) (hb : -(1000000000000:Int)≤b∧b≤(1000000000000:Int)) :
    FnV Tryz.prog 382 #[.int .i64 (a),.int .i64 (b)] I (.int .i64 (b1r (a-b))):=by
 refine enter Tryz.func382 Tryz.call382 rfl Tryz.ntmps382 rfl (fun w0=>?_);refine go 11 ?_;refine a0a (c9N _ _) rfl rfl ?_;refine go 4 ?_;refine a0x rfl rfl ?_;exact q_v rfl
theorem b9r (I:IMap) (x y:Nat) (hx:x<18446744073709551616) (hy:y<18446744073709551616) :
    FnV Tryz.prog 386 #[.int .u64 ((x:Nat):Int),.int .u64 ((y:Nat):Int)] I (.tuple #[.int .u64 ((x * y / 18446744073709551616:Nat):Int),.int .u64 ((x * y % 18446744073709551616:Nat):Int)]):=by
 obtain⟨bd,bt,bw,hhi⟩:=Lib.mul64_hi x y hx hy
 have ba:=Lib.half_mul_le (a:=x / 4294967296) (b:=y / 4294967296) (by omega) (by omega)
 have bb:=Lib.half_mul_le (a:=x / 4294967296) (b:=y % 4294967296) (by omega) (by omega)
 have bc:=Lib.half_mul_le (a:=x % 4294967296) (b:=y / 4294967296) (by omega) (by omega)
 refine enter Tryz.func386 Tryz.call386 rfl Tryz.ntmps386 rfl (fun w0=>?_);refine go 9 ?_;refine o_v rfl (c2d hx rfl) ?_;refine go 6 ?_;refine o_v rfl (c2a rfl) ?_;refine go 6 ?_;refine o_v rfl (c2d hy rfl) ?_;refine go 6 ?_;refine o_v rfl (c2a rfl) ?_;refine go 7 ?_;refine o_v rfl (b7G rfl rfl bd) ?_;refine go 7 ?_;refine o_v rfl (b7G rfl rfl (by omega)) ?_;refine go 1 ?_;refine o_v rfl (c2a rfl) ?_;refine o_v rfl (b7F rfl rfl bt) ?_;refine go 6 ?_;refine o_v rfl (c2d bt rfl) ?_;refine go 6 ?_;refine o_v rfl (c2a rfl) ?_;refine go 8 ?_;refine o_v rfl (b7G rfl rfl (by omega)) ?_;refine o_v rfl (b7F rfl rfl bw) ?_;refine go 7 ?_;refine o_v rfl (b7G rfl rfl (by omega)) ?_;refine go 1 ?_;refine o_v rfl (b7F rfl rfl (by omega)) ?_;refine go 1 ?_;refine o_v rfl (c2a rfl) ?_;refine o_v rfl (b7F rfl rfl (by omega)) ?_;refine go 7 ?_;refine o_v rfl (d0N rfl rfl) ?_;refine go 4 ?_;refine a2D rfl rfl rfl ?_;exact q_v (by rw[hhi])
theorem c3B (I:IMap) (a b:Int) (ha : -(1000000000000:Int)≤a∧a≤(1000000000000:Int)) (hb : -(1000000000000:Int)≤b∧b≤(1000000000000:Int)) :
    FnV Tryz.prog 383 #[.int .i64 (a),.int .i64 (b)] I (.int .i64 (b1r (a * b))):=by
 refine enter Tryz.func383 Tryz.call383 rfl Tryz.ntmps383 rfl (fun w0=>?_);refine go 9 ?_;refine o_v rfl (c8G rfl ⟨by omega,by omega⟩) ?_;refine o_v rfl (OV.cast (u:=.int .i64 (((a.natAbs:Nat):Int))) (a5M rfl rfl) (congrArg (Value.int .i64) (by omega))) ?_;refine o_v rfl (a2k he he rfl (m:=((a.natAbs:Nat):Int)) (wrap_u64 _ (by omega) (by omega))) ?_;refine go 2 ?_;refine o_v rfl (c8G rfl ⟨by omega,by omega⟩) ?_;refine o_v rfl (OV.cast (u:=.int .i64 (((b.natAbs:Nat):Int))) (a5M rfl rfl) (congrArg (Value.int .i64) (by omega))) ?_;refine o_v rfl (a2k he he rfl (m:=((b.natAbs:Nat):Int)) (wrap_u64 _ (by omega) (by omega))) ?_;refine go 1 ?_;refine a0a (b9r _ a.natAbs b.natAbs (by omega) (by omega)) rfl rfl ?_;refine go 13 ?_;refine a2z (I':=I) (L':=[(0,.int .i64 (a)),(1,.int .i64 (b)),(7,.int .i64 (min ((a.natAbs * b.natAbs:Nat):Int) (1000000000000:Int)))]) (H':=[]) ?_ ?_
 ·refine go 5 ?_;refine sxb 24 rfl (fun h24 p24=>?_) (fun h24 p24=>?_)
  ·refine go 5 ?_;refine cb rfl (fun h27 p27=>?_) (fun h27 p27=>?_)
   ·refine go 2 ?_;refine o_v rfl (a2k he he rfl (m:=((a.natAbs * b.natAbs % 18446744073709551616:Nat):Int)) (by rw[IntKind.wrap_i64];omega)) ?_;refine go 3 ?_;exact a0E ⟨rfl,rfl,(congrArg (fun z=>some (Value.int .i64 z)) (by omega)),trivial⟩ rfl rfl
   ·refine go 2 ?_;exact a0E ⟨rfl,rfl,(congrArg (fun z=>some (Value.int .i64 z)) (by omega)),trivial⟩ rfl rfl
  ·refine go 5 ?_;refine a0P rfl ?_;refine go 2 ?_;exact a0E ⟨rfl,rfl,(congrArg (fun z=>some (Value.int .i64 z)) (by omega)),trivial⟩ rfl rfl
 ·refine go 7 ?_;refine o_v rfl (c1X he rfl rfl) ?_;refine go 2 ?_;refine cb rfl (fun h34 p34=>?_) (fun h34 p34=>?_)
  ·refine go 3 ?_;refine o_v rfl (c8G rfl ⟨by omega,by omega⟩) ?_;refine go 5 ?_;refine a0x rfl rfl ?_;exact q_v (congrArg (Value.int .i64) (c8h h34))
  ·refine go 9 ?_;refine a0x rfl rfl ?_;exact q_v (congrArg (Value.int .i64) (c8i h34))
theorem d0D (I:IMap) (v:Value) (l:List Int) (hv:RdS I v l) (h0:0<l.length) :
    FnV Tryz.prog 250 #[v] I (.int .i64 (b5i l (l.length-1))):=by
 obtain⟨A,c0,rfl,hA,hc,hm⟩:=hv;refine enter Tryz.func250 Tryz.call250 rfl Tryz.ntmps250 rfl (fun w0=>?_);refine go 13 ?_;refine cb rfl (fun h7 p7=>?_) (fun h7 p7=>?_)
 ·exfalso;omega
 ·refine go 5 ?_;obtain⟨b10,o10,w10,e10,c10,r10⟩:=RdA.at_ hA (i:=0) (by omega);obtain rfl:=r10;refine o_v rfl (a0n he rfl rfl e10 (0) (by omega) (by omega)) ?_;refine o_v rfl (a0W he rfl (c10 0 _ rfl)) ?_;refine go 10 ?_
  refine a0L (α:=Nat) 0 (fun i=>I)
   (fun i=>[(0,.slice A l.length c0),(3,.int .i64 (b5i l i)),(4,.int .i64 ((i+1:Nat):Int))])
   (fun i=>[])
   (fun i=>i<l.length)
   (fun i=>l.length-i) h0 rfl ⟨rfl,by rw[c0Q h0];rfl,rfl,trivial⟩ rfl ?_
  intro i hx;refine go 9 ?_;refine cb rfl (fun h15 p15=>?_) (fun h15 p15=>?_)
  ·refine go 8 ?_;obtain⟨b21,o21,w21,e21,c21,r21⟩:=RdA.at_ hA (i:=i+1) (by omega);obtain rfl:=r21;refine o_v rfl (a0n he rfl rfl e21 (i+1) (by omega) (by omega)) ?_;refine o_v rfl (a0W he rfl (c21 0 _ rfl)) ?_;refine o_v rfl (OV.cast (u:=.int .i64 (b5i l (i+1))) (b0i rfl rfl) (congrArg (Value.int .i64) (c0P (by omega)))) ?_;refine go 10 ?_;exact a0J (i+1) (by omega) (by omega) rfl sb rfl
  ·obtain rfl:i=l.length-1:=by omega
   refine go 12 ?_;refine a0x rfl rfl ?_;exact q_v rfl
theorem d0C (I:IMap) (v:Value) (l:List Int) (hv:RdS I v l) (h0:0<l.length) :
    FnV Tryz.prog 251 #[v] I (.int .i64 (b5h l (l.length-1))):=by
 obtain⟨A,c0,rfl,hA,hc,hm⟩:=hv;refine enter Tryz.func251 Tryz.call251 rfl Tryz.ntmps251 rfl (fun w0=>?_);refine go 13 ?_;refine cb rfl (fun h7 p7=>?_) (fun h7 p7=>?_)
 ·exfalso;omega
 ·refine go 5 ?_;obtain⟨b10,o10,w10,e10,c10,r10⟩:=RdA.at_ hA (i:=0) (by omega);obtain rfl:=r10;refine o_v rfl (a0n he rfl rfl e10 (0) (by omega) (by omega)) ?_;refine o_v rfl (a0W he rfl (c10 0 _ rfl)) ?_;refine go 10 ?_
  refine a0L (α:=Nat) 0 (fun i=>I)
   (fun i=>[(0,.slice A l.length c0),(3,.int .i64 (b5h l i)),(4,.int .i64 ((i+1:Nat):Int))])
   (fun i=>[])
   (fun i=>i<l.length)
   (fun i=>l.length-i) h0 rfl ⟨rfl,by rw[c0H h0];rfl,rfl,trivial⟩ rfl ?_
  intro i hx;refine go 9 ?_;refine cb rfl (fun h15 p15=>?_) (fun h15 p15=>?_)
  ·refine go 8 ?_;obtain⟨b21,o21,w21,e21,c21,r21⟩:=RdA.at_ hA (i:=i+1) (by omega);obtain rfl:=r21;refine o_v rfl (a0n he rfl rfl e21 (i+1) (by omega) (by omega)) ?_;refine o_v rfl (a0W he rfl (c21 0 _ rfl)) ?_;refine o_v rfl (OV.cast (u:=.int .i64 (b5h l (i+1))) (a5M rfl rfl) (congrArg (Value.int .i64) (c0G (by omega)))) ?_;refine go 10 ?_;exact a0J (i+1) (by omega) (by omega) rfl sb rfl
  ·obtain rfl:i=l.length-1:=by omega
   refine go 12 ?_;refine a0x rfl rfl ?_;exact q_v rfl
theorem b6y (I:IMap) (v:Value) (l:List Int) (hv:RdS I v l) (h0:0<l.length) :
    FnV Tryz.prog 204 #[v] I (.agg #[.int .i64 (b5i l (l.length-1)),.int .i64 (b5h l (l.length-1))]):=by
 refine enter Tryz.func204 Tryz.call204 rfl Tryz.ntmps204 rfl (fun w0=>?_);refine go 3 ?_;refine a0h he rfl (fun g2=>?_);refine go 6 ?_;refine a0a (d0D _ _ l hv h0) rfl rfl ?_;refine go 2 ?_;refine a0a (d0C _ _ l hv h0) rfl rfl ?_;refine go 1 ?_;refine a0l rfl (a0A (pl:=[(0,1),(1,1)]) he he rfl rfl) ?_;refine go 1 ?_;refine a0m _ he rfl rfl rfl rfl rfl rfl ?_;refine go 3 ?_;refine a0x rfl ⟨_,_,_,rfl,m0,.inr ⟨_,he,rfl,rfl⟩⟩ ?_;exact q_v rfl
theorem c0x (I:IMap) (a b:Ivl) (g:FuncId) (f:Int→Int→Int) (hf:∀x y,(-(1000000000000:Int)≤x∧x≤(1000000000000:Int))→(-(1000000000000:Int)≤y∧y≤(1000000000000:Int))→FnV Tryz.prog g #[.int .i64 (x),.int .i64 (y)] I (.int .i64 (f x y))) :
    FnV Tryz.prog 227 #[.agg a.cells.toArray,.agg b.cells.toArray,.func (.func g) #[] #[]] I (.agg (b0r f a b).cells.toArray):=by
 refine enter Tryz.func227 Tryz.call227 rfl Tryz.ntmps227 rfl (fun w0=>?_);refine go 3 ?_;refine a0B _ rfl rfl rfl (fun g3=>?_);refine go 1 ?_;refine a0B _ rfl rfl rfl (fun g4=>?_);refine go 1 ?_;refine a0h he rfl (fun g6=>?_);refine go 4 ?_;refine a2z (I':=I) (L':=[(2,.func (.func g) #[] #[]),(3,.pointer (some ⟨g3,0,none⟩)),(4,.pointer (some ⟨g4,0,none⟩)),(6,.pointer (some ⟨g6,0,none⟩)),(18,.bool (!a2n a || !a2n b))]) (H':=[.blk g3 44 a.cells,.blk g4 44 b.cells,.blk g6 44 [.int .i64 (0),.int .i64 (0)]]) ?_ ?_
 ·refine go 3 ?_;refine a0a (a9I _ a) rfl rfl ?_;refine go 2 ?_;refine sxb 14 rfl (fun h14 p14=>?_) (fun h14 p14=>?_)
  ·refine go 6 ?_;refine a0g ?_;refine a0u ?_;exact a0E ⟨rfl,rfl,rfl,rfl,(congrArg (fun b=>some (Value.bool b)) (by simp only[h14,bS])),trivial⟩ rfl rfl
  ·refine go 2 ?_;refine a0y rfl rfl h14 (a0a (a9I _ b) rfl rfl ?_);refine go 4 ?_;refine a0g ?_;refine a0u ?_;exact a0E ⟨rfl,rfl,rfl,rfl,(congrArg (fun b=>some (Value.bool b)) (by simp only[h14,bS])),trivial⟩ rfl rfl
 ·refine cb rfl (fun h18 p18=>?_) (fun h18 p18=>?_)
  ·refine go 3 ?_;refine a0l rfl (a0A (pl:=[(0,1),(1,1)]) he he rfl rfl) ?_;refine go 1 ?_;refine a0u ?_;refine a0m _ he rfl rfl rfl rfl rfl rfl ?_;refine go 4 ?_;refine a0x rfl ⟨_,_,_,rfl,m0,.inr ⟨_,he,rfl,rfl⟩⟩ ?_;exact q_v (by rw[c6c h18];rfl)
  ·obtain⟨⟨ha1,ha2⟩,hb1,hb2⟩:=c6b h18;refine go 3 ?_;refine a1h T.mixed ?_;refine a0f 0 rfl rfl (by kernel_rfl) rfl (.refl _) rfl (a0d he rfl) ?_;refine a0f 1 rfl rfl (by kernel_rfl) rfl (.refl _) rfl (a6t m0 he rfl rfl) ?_;refine a0f 2 rfl rfl (by kernel_rfl) rfl (.refl _) rfl (a0d he rfl) ?_;refine a0f 3 rfl rfl (by kernel_rfl) rfl (.refl _) rfl (a6t m0 he rfl rfl) ?_;refine a0f 4 rfl rfl (by kernel_rfl) rfl (.refl _) rfl (a0d he rfl) ?_;refine a0f 5 rfl rfl (by kernel_rfl) rfl (.refl _) rfl (a6t m1 he rfl rfl) ?_;refine a0f 6 rfl rfl (by kernel_rfl) rfl (.refl _) rfl (a0d he rfl) ?_;refine a0f 7 rfl rfl (by kernel_rfl) rfl (.refl _) rfl (a6t m1 he rfl rfl) ?_;refine a0f 8 rfl rfl (by kernel_rfl) rfl (.refl _) rfl (a0I rfl) ?_;refine a0f 9 rfl rfl (by kernel_rfl) rfl (.refl _) rfl (a0I rfl) ?_;refine a0f 10 rfl rfl (by kernel_rfl) rfl (.refl _) rfl (a0I rfl) ?_;refine a0f 11 rfl rfl (by kernel_rfl) rfl (.refl _) rfl (a0I rfl) ?_;refine a0w (by kernel_rfl) ?_;refine go 7 ?_;refine a0a (hf _ _ ha1 hb1) rfl rfl ?_;refine go 4 ?_;refine a0a (hf _ _ ha1 hb2) rfl rfl ?_;refine go 4 ?_;refine a0a (hf _ _ ha2 hb1) rfl rfl ?_;refine go 4 ?_;refine a0a (hf _ _ ha2 hb2) rfl rfl ?_;refine go 1 ?_;refine a0e he he rfl rfl rfl rfl rfl rfl rfl (fun v44=>?_);refine go 1 ?_;refine b2l m0 rfl rfl ((a7X [f a.low b.low,f a.low b.high,f a.high b.low,f a.high b.high])) (fun I2 hI2 hR=>b6y _ _ [f a.low b.low,f a.low b.high,f a.high b.low,f a.high b.high] hR (Nat.zero_lt_succ _)) rfl rfl ?_;refine go 1 ?_;refine a1k ?_;refine a0m _ he rfl rfl rfl rfl rfl rfl ?_;refine go 3 ?_;refine a0x rfl ⟨_,_,_,rfl,m0,.inr ⟨_,he,rfl,rfl⟩⟩ ?_;exact q_v (by rw[c2J h18];rfl)
theorem a2m (I:IMap) (a b:Ivl) :
    FnV Tryz.prog 160 #[.agg a.cells.toArray,.agg b.cells.toArray] I (.agg (c2t a b).cells.toArray):=by
 refine enter Tryz.func160 Tryz.call160 rfl Tryz.ntmps160 rfl (fun w0=>?_);refine go 3 ?_;refine a0B _ rfl rfl rfl (fun g2=>?_);refine go 1 ?_;refine a0B _ rfl rfl rfl (fun g3=>?_);refine go 1 ?_;refine a0h he rfl (fun g4=>?_);refine go 7 ?_;refine a0a (c0x _ a b _ _ (fun x y hx hy=>c7j _ x y hx hy)) rfl rfl ?_;refine go 1 ?_;refine a0m _ he rfl rfl rfl rfl rfl rfl ?_;refine go 3 ?_;refine a0x rfl ⟨_,_,_,rfl,m0,.inr ⟨_,he,rfl,rfl⟩⟩ ?_;exact q_v rfl
theorem d1F (I:IMap) (a b:Ivl) :
    FnV Tryz.prog 378 #[.agg a.cells.toArray,.agg b.cells.toArray] I (.agg (d1V a b).cells.toArray):=by
 refine enter Tryz.func378 Tryz.call378 rfl Tryz.ntmps378 rfl (fun w0=>?_);refine go 3 ?_;refine a0B _ rfl rfl rfl (fun g2=>?_);refine go 1 ?_;refine a0B _ rfl rfl rfl (fun g3=>?_);refine go 1 ?_;refine a0h he rfl (fun g4=>?_);refine go 7 ?_;refine a0a (c0x _ a b _ _ (fun x y hx hy=>c3A _ x y hx hy)) rfl rfl ?_;refine go 1 ?_;refine a0m _ he rfl rfl rfl rfl rfl rfl ?_;refine go 3 ?_;refine a0x rfl ⟨_,_,_,rfl,m0,.inr ⟨_,he,rfl,rfl⟩⟩ ?_;exact q_v rfl
theorem d1E (I:IMap) (a b:Ivl) :
    FnV Tryz.prog 379 #[.agg a.cells.toArray,.agg b.cells.toArray] I (.agg (d1N a b).cells.toArray):=by
 refine enter Tryz.func379 Tryz.call379 rfl Tryz.ntmps379 rfl (fun w0=>?_);refine go 3 ?_;refine a0B _ rfl rfl rfl (fun g2=>?_);refine go 1 ?_;refine a0B _ rfl rfl rfl (fun g3=>?_);refine go 1 ?_;refine a0h he rfl (fun g4=>?_);refine go 7 ?_;refine a0a (c0x _ a b _ _ (fun x y hx hy=>c3B _ x y hx hy)) rfl rfl ?_;refine go 1 ?_;refine a0m _ he rfl rfl rfl rfl rfl rfl ?_;refine go 3 ?_;refine a0x rfl ⟨_,_,_,rfl,m0,.inr ⟨_,he,rfl,rfl⟩⟩ ?_;exact q_v rfl
theorem c0y (I:IMap) (a b:Ivl) :
    FnV Tryz.prog 134 #[.agg a.cells.toArray,.agg b.cells.toArray] I (.agg (a2R a b).cells.toArray):=by
 refine enter Tryz.func134 Tryz.call134 rfl Tryz.ntmps134 rfl (fun w0=>?_);refine go 3 ?_;refine a0B _ rfl rfl rfl (fun g2=>?_);refine go 1 ?_;refine a0B _ rfl rfl rfl (fun g3=>?_);refine go 1 ?_;refine a0h he rfl (fun g4=>?_);refine go 4 ?_;refine a2z (I':=I) (L':=[(2,.pointer (some ⟨g2,0,none⟩)),(3,.pointer (some ⟨g3,0,none⟩)),(4,.pointer (some ⟨g4,0,none⟩)),(12,.bool (!a2n a || !a2n b))]) (H':=[.blk g2 44 a.cells,.blk g3 44 b.cells,.blk g4 44 [.int .i64 (0),.int .i64 (0)]]) ?_ ?_
 ·refine go 3 ?_;refine a0a (a9I _ a) rfl rfl ?_;refine go 2 ?_;refine sxb 8 rfl (fun h8 p8=>?_) (fun h8 p8=>?_)
  ·refine go 6 ?_;refine a0g ?_;refine a0u ?_;exact a0E ⟨rfl,rfl,rfl,(congrArg (fun b=>some (Value.bool b)) (by simp only[h8,bS])),trivial⟩ rfl rfl
  ·refine go 2 ?_;refine a0y rfl rfl h8 (a0a (a9I _ b) rfl rfl ?_);refine go 4 ?_;refine a0g ?_;refine a0u ?_;exact a0E ⟨rfl,rfl,rfl,(congrArg (fun b=>some (Value.bool b)) (by simp only[h8,bS])),trivial⟩ rfl rfl
 ·refine cb rfl (fun h12 p12=>?_) (fun h12 p12=>?_)
  ·refine go 3 ?_;refine a0l rfl (a0A (pl:=[(0,1),(1,1)]) he he rfl rfl) ?_;refine go 1 ?_;refine a0u ?_;refine a0m _ he rfl rfl rfl rfl rfl rfl ?_;refine go 4 ?_;refine a0x rfl ⟨_,_,_,rfl,m0,.inr ⟨_,he,rfl,rfl⟩⟩ ?_;exact q_v (by rw[c7l h12];rfl)
  ·refine go 13 ?_;refine a0e he he rfl rfl rfl rfl rfl rfl rfl (fun v22=>?_);refine go 1 ?_;refine b2l m0 rfl rfl ((a7X [a.low,a.high,b.low,b.high])) (fun I2 hI2 hR=>b6y _ _ [a.low,a.high,b.low,b.high] hR (Nat.zero_lt_succ _)) rfl rfl ?_;refine go 1 ?_;refine a1k ?_;refine a0m _ he rfl rfl rfl rfl rfl rfl ?_;refine go 3 ?_;refine a0x rfl ⟨_,_,_,rfl,m0,.inr ⟨_,he,rfl,rfl⟩⟩ ?_;exact q_v (by rw[c3C h12];rfl)
theorem c9M (I:IMap) (x:Ivl) (n:Int) :
    FnV Tryz.prog 381 #[.agg x.cells.toArray,.int .i64 (n)] I (.int .i64 (b8C x n)):=by
 refine enter Tryz.func381 Tryz.call381 rfl Tryz.ntmps381 rfl (fun w0=>?_);refine go 3 ?_;refine a0B _ rfl rfl rfl (fun g2=>?_);refine go 6 ?_;refine a2z (I':=I) (L':=[(1,.int .i64 (n)),(2,.pointer (some ⟨g2,0,none⟩)),(5,.bool (!a2n x||decide (x.high≤n)))]) (H':=[.blk g2 44 x.cells]) ?_ ?_
 ·refine go 3 ?_;refine a0a (a9I _ x) rfl rfl ?_;refine go 2 ?_;refine sxb 9 rfl (fun h9 p9=>?_) (fun h9 p9=>?_)
  ·refine go 8 ?_;exact a0E ⟨rfl,rfl,(congrArg (fun b=>some (Value.bool b)) (by simp only[h9,bS])),trivial⟩ rfl rfl
  ·refine go 8 ?_;exact a0E ⟨rfl,rfl,(congrArg (fun b=>some (Value.bool b)) (by simp only[h9,bS])),trivial⟩ rfl rfl
 ·refine cb rfl (fun h5 p5=>?_) (fun h5 p5=>?_)
  ·refine go 8 ?_;refine a0x rfl rfl ?_;exact q_v (congrArg (Value.int .i64) (by unfold b8C;rw[if_pos h5]))
  ·refine go 9 ?_;refine cb rfl (fun h15 p15=>?_) (fun h15 p15=>?_)
   ·refine go 8 ?_;refine a0x rfl rfl ?_;exact q_v (congrArg (Value.int .i64) (by unfold b8C;rw[if_neg (by rw[h5];decide),if_pos p15]))
   ·refine go 9 ?_;refine a0x rfl rfl ?_;exact q_v (congrArg (Value.int .i64) (by unfold b8C;rw[if_neg (by rw[h5];decide),if_neg p15]))
theorem b3f (I:IMap) (N:Nat) (ih:∀(f:Fm),cntN f≤N→∀vs,FmRd I vs f→∀m:Int,0≤m→m≤1000→FnV Tryz.prog 138 #[.agg vs.toArray,.int .i64 (m)] I (.int .i64 (nodesF f m))) (f:Fm) (hN:cntN f≤N+1) (vs:List Value) (hr:FmRd I vs f) (m:Int) (h0:0≤m) (h1:m≤1000) :
    FnV Tryz.prog 138 #[.agg vs.toArray,.int .i64 (m)] I (.int .i64 (nodesF f m)):=by
 obtain⟨s,rfl,hs⟩:=a4V hr;obtain⟨A,c0,rfl,hA,hc,hm⟩:=hs;refine enter Tryz.func138 Tryz.call138 rfl Tryz.ntmps138 rfl (fun w0=>?_);refine go 3 ?_;refine a0B _ rfl rfl rfl (fun g2=>?_);refine go 18 ?_;refine a0b ?_
 refine a1w ((0:Nat)) ((1:Int)) (fun i n=>I)
  (fun i n=>[(1,.int .i64 (m)),(5,.int .i64 (n)),(9,.slice A f.kids.length c0),(10,.int .i64 (f.kids.length:Int)),(11,.int .i64 ((i:Nat):Int))])
  (fun i n=>[])
  (fun i n=>i≤f.kids.length∧(1≤n∧n≤m+1)∧nodesL (f.kids.drop i) n m=nodesF f m)
  (fun i n=>f.kids.length-i) ⟨Nat.zero_le _,⟨by omega,by omega⟩,a9P⟩ rfl sb rfl ?_
 intro i n ⟨hi,hn,hq⟩;refine go 6 ?_;refine cb rfl (fun h12 p12=>?_) (fun h12 p12=>?_)
 ·have hlt:i<f.kids.length:=by omega
  refine go 6 ?_;obtain⟨b13,o13,w13,e13,c13,r13⟩:=RdA.at_ hA (i:=i) (by omega)
  replace r13:=a4V r13
  obtain⟨s13,rfl,hs13⟩:=r13;refine o_v rfl (a0n he rfl rfl e13 (i) (by omega) (by omega)) ?_;refine o_v rfl (a0H he rfl c13 rfl) ?_;refine go 1 ?_;refine a0h he rfl (fun g7=>?_);refine go 1 ?_;refine a0m _ he rfl rfl rfl rfl rfl (Enc.one (α:=Fm) (a5d hs13)) ?_;refine go 10 ?_;refine cb rfl (fun h17 p17=>?_) (fun h17 p17=>?_)
  ·refine go 14 ?_;refine a0x rfl rfl ?_;exact q_v (congrArg (Value.int .i64) (b1b hlt hq p17))
  ·have hkn:=b2j f.kids[i] (m-n) (by omega)
   refine go 9 ?_;refine a0a (ih f.kids[i] (by have:=a5R (List.getElem_mem hlt);omega) _ (a5d hs13) _ (by omega) (by omega)) rfl rfl ?_;refine go 10 ?_;refine a0b ?_;exact a0M (i+1) (_) ⟨by omega,by omega,b1a hlt hq p17⟩ (by omega) rfl sb rfl
 ·refine go 12 ?_;refine a0x rfl rfl ?_;exact q_v (congrArg (Value.int .i64) (b3D (by omega) hq))
theorem c6X (I:IMap) (f:Fm) (vs:List Value) (hr:FmRd I vs f) (m:Int) (h0:0≤m) (h1:m≤1000):FnV Tryz.prog 138 #[.agg vs.toArray,.int .i64 (m)] I (.int .i64 (nodesF f m)):=by
 have key:∀(N:Nat) (f:Fm),cntN f≤N→∀vs,FmRd I vs f→∀m:Int,0≤m→m≤1000→FnV Tryz.prog 138 #[.agg vs.toArray,.int .i64 (m)] I (.int .i64 (nodesF f m)):=by
  intro N
  induction N with
  |zero=>intro f hN;exact absurd hN (by cases f;simp[cntN])
  |succ N ih=>intro f hN vs hr m h0 h1;exact b3f I N ih f hN vs hr m h0 h1
 exact key (cntN f) f (Nat.le_refl _) vs hr m h0 h1
theorem b3g (I:IMap) (N:Nat) (ih:∀(f:Fm),cntN f≤N→∀vs,FmRd I vs f→FnV Tryz.prog 139 #[.agg vs.toArray] I (.bool (rightF f))) (f:Fm) (hN:cntN f≤N+1) (vs:List Value) (hr:FmRd I vs f) :
    FnV Tryz.prog 139 #[.agg vs.toArray] I (.bool (rightF f)):=by
 obtain⟨s,rfl,hs⟩:=a4V hr;obtain⟨A,c0,rfl,hA,hc,hm⟩:=hs;refine enter Tryz.func139 Tryz.call139 rfl Tryz.ntmps139 rfl (fun w0=>?_);refine go 3 ?_;refine a0B _ rfl rfl rfl (fun g1=>?_);refine go 9 ?_;refine a7a (α:=Unit) (Ix:=(fun u=>I)) (Lx:=(fun u=>[(1,.pointer (some ⟨g1,0,none⟩)),(3,.int .i64 (a8p f.op))])) (Hx:=(fun u=>[.blk g1 70 [ci f.op,ci f.n,.slice A f.kids.length c0]])) (p:=(fun u=>b2Q f=false)) ?_ ?_
 ·refine go 2 ?_;refine a2z (I':=I) (L':=[(1,.pointer (some ⟨g1,0,none⟩)),(3,.int .i64 (0)),(6,.bool (b2Q f))]) (H':=[.blk g1 70 [ci f.op,ci f.n,.slice A f.kids.length c0]]) ?_ ?_
  ·refine go 5 ?_;refine sxb 10 rfl (fun h10 p10=>?_) (fun h10 p10=>?_)
   ·refine go 7 ?_;exact a0E ⟨rfl,rfl,(congrArg (fun b=>some (Value.bool b)) (by simp only[b2Q,h10,bS])),trivial⟩ rfl rfl
   ·refine go 7 ?_;exact a0E ⟨rfl,rfl,(congrArg (fun b=>some (Value.bool b)) (by simp only[b2Q,h10,bS])),trivial⟩ rfl rfl
  ·refine cb rfl (fun h6 p6=>?_) (fun h6 p6=>?_)
   ·refine go 8 ?_;refine a0x rfl rfl ?_;exact q_v (congrArg Value.bool (c4w h6).symm)
   ·refine go 8 ?_;refine cb rfl (fun h15 p15=>?_) (fun h15 p15=>?_)
    ·refine go 5 ?_;exact a2T () h6 ⟨rfl,(congrArg (fun z=>some (Value.int .i64 z)) (by unfold a8p;split<;>(try split)<;>omega)),trivial⟩ rfl rfl
    ·refine go 8 ?_;refine cb rfl (fun h19 p19=>?_) (fun h19 p19=>?_)
     ·refine go 5 ?_;exact a2T () h6 ⟨rfl,(congrArg (fun z=>some (Value.int .i64 z)) (by unfold a8p;split<;>(try split)<;>omega)),trivial⟩ rfl rfl
     ·refine go 3 ?_;exact a2T () h6 ⟨rfl,(congrArg (fun z=>some (Value.int .i64 z)) (by unfold a8p;split<;>(try split)<;>omega)),trivial⟩ rfl rfl
 ·intro u h6;refine go 2 ?_;refine a2z (I':=I) (L':=[(1,.pointer (some ⟨g1,0,none⟩)),(47,.bool (b0q f))]) (H':=[.blk g1 70 [ci f.op,ci f.n,.slice A f.kids.length c0]]) ?_ ?_
  ·refine go 7 ?_;refine sxb 28 rfl (fun h28 p28=>?_) (fun h28 p28=>?_)
   ·refine go 21 ?_;exact a0E ⟨rfl,(congrArg (fun b=>some (Value.bool b)) (by simp only[b0q,h28,bS])),trivial⟩ rfl rfl
   ·refine go 5 ?_;refine sxb 33 rfl (fun h33 p33=>?_) (fun h33 p33=>?_)
    ·refine go 16 ?_;exact a0E ⟨rfl,(congrArg (fun b=>some (Value.bool b)) (by simp only[b0q,h28,h33,bS])),trivial⟩ rfl rfl
    ·refine go 5 ?_;refine sxb 38 rfl (fun h38 p38=>?_) (fun h38 p38=>?_)
     ·refine go 11 ?_;exact a0E ⟨rfl,(congrArg (fun b=>some (Value.bool b)) (by simp only[b0q,h28,h33,h38,bS])),trivial⟩ rfl rfl
     ·refine go 4 ?_;refine sxb 42 rfl (fun h42 p42=>?_) (fun h42 p42=>?_)
      ·refine go 7 ?_;exact a0E ⟨rfl,(congrArg (fun b=>some (Value.bool b)) (by simp only[b0q,h28,h33,h38,h42,bS])),trivial⟩ rfl rfl
      ·refine go 7 ?_;exact a0E ⟨rfl,(congrArg (fun b=>some (Value.bool b)) (by simp only[b0q,h28,h33,h38,h42,bS])),trivial⟩ rfl rfl
  ·refine cb rfl (fun h47 p47=>?_) (fun h47 p47=>?_)
   ·refine go 7 ?_;refine a0x rfl rfl ?_;exact q_v (congrArg Value.bool (c4x h47).symm)
   ·refine go 12 ?_;refine a0b ?_
    refine a0L (α:=Nat) 0 (fun i=>I)
     (fun i=>[(49,.slice A f.kids.length c0),(50,.int .i64 (f.kids.length:Int)),(51,.int .i64 ((i:Nat):Int))])
     (fun i=>[])
     (fun i=>i≤f.kids.length∧a3A (fun _ k=>rightF k) f.kids i=true)
     (fun i=>f.kids.length-i) ⟨Nat.zero_le _,rfl⟩ rfl sb rfl ?_
    intro i ⟨hi,hn⟩;refine go 6 ?_;refine cb rfl (fun h52 p52=>?_) (fun h52 p52=>?_)
    ·have hlt:i<f.kids.length:=by omega
     refine go 6 ?_;obtain⟨b53,o53,w53,e53,c53,r53⟩:=RdA.at_ hA (i:=i) (by omega)
     replace r53:=a4V r53
     obtain⟨s53,rfl,hs53⟩:=r53;refine o_v rfl (a0n he rfl rfl e53 (i) (by omega) (by omega)) ?_;refine o_v rfl (a0H he rfl c53 rfl) ?_;refine go 1 ?_;refine a0h he rfl (fun g5=>?_);refine go 1 ?_;refine a0m _ he rfl rfl rfl rfl rfl (Enc.one (α:=Fm) (a5d hs53)) ?_;refine go 6 ?_;refine a0a (ih f.kids[i] (by have:=a5R (List.getElem_mem hlt);omega) _ (a5d hs53)) rfl rfl ?_;refine go 3 ?_;refine cb rfl (fun h57 p57=>?_) (fun h57 p57=>?_)
     ·refine go 11 ?_;refine a0x rfl rfl ?_;exact q_v (congrArg Value.bool (c1u hlt (by simpa using h57)).symm)
     ·refine go 8 ?_;refine a0b ?_;exact a0J (i+1) ⟨by omega,a1M (f:=fun _ k=>rightF k) hn hlt (by simpa using h57)⟩ (by omega) rfl sb rfl
    ·refine go 11 ?_;refine a0x rfl rfl ?_
     have e:i=f.kids.length:=(by omega)
     subst e;exact q_v (congrArg Value.bool (c1t h6 h47 hn).symm)
theorem c6Y (I:IMap) (f:Fm) (vs:List Value) (hr:FmRd I vs f):FnV Tryz.prog 139 #[.agg vs.toArray] I (.bool (rightF f)):=by
 have key:∀(N:Nat) (f:Fm),cntN f≤N→∀vs,FmRd I vs f→FnV Tryz.prog 139 #[.agg vs.toArray] I (.bool (rightF f)):=by
  intro N
  induction N with
  |zero=>intro f hN;exact absurd hN (by cases f;simp[cntN])
  |succ N ih=>intro f hN vs hr;exact b3g I N ih f hN vs hr
 exact key (cntN f) f (Nat.le_refl _) vs hr
theorem c0f (I:IMap) (f:Fm) (vs:List Value) (hr:FmRd I vs f) :
    FnV Tryz.prog 86 #[.agg vs.toArray] I (.bool (a1G f)):=by
 have hl:=Enc.len (α:=Fm) hr
 refine enter Tryz.func86 Tryz.call86 rfl Tryz.ntmps86 rfl (fun w0=>?_);refine go 3 ?_;refine a0B _ rfl rfl rfl (fun g1=>?_);refine go 5 ?_;refine o_v rfl (a4d m0 he rfl hl) ?_;refine go 1 ?_;refine a0a (c6X _ f _ hr 60 (by omega) (by omega)) rfl rfl ?_;refine go 2 ?_;refine sxb 6 rfl (fun h6 p6=>?_) (fun h6 p6=>?_)
 ·refine a0v (a0y rfl rfl h6 (a0l rfl (a4d m0 he rfl hl) ?_));refine go 1 ?_;refine a0y rfl rfl h6 (a0a (c6Y _ f _ hr) rfl rfl ?_);refine go 5 ?_;refine a0x rfl rfl ?_;exact q_v (congrArg Value.bool (by simp only[a1G,h6,bS]))
 ·refine go 7 ?_;refine a0x rfl rfl ?_;exact q_v (congrArg Value.bool (by simp only[a1G,h6,bS]))
theorem c0e (I:IMap) (a b:Int) (ha : -(1000000000000:Int)≤a∧a≤(1000000000000:Int)) :
    FnV Tryz.prog 385 #[.int .i64 (a),.int .i64 (b)] I (.int .i64 (a3Y a b)):=by
 refine enter Tryz.func385 Tryz.call385 rfl Tryz.ntmps385 rfl (fun w0=>?_);refine go 12 ?_;refine cb rfl (fun h7 p7=>?_) (fun h7 p7=>?_)
 ·refine go 7 ?_;refine a0x rfl rfl ?_;exact q_v (congrArg (Value.int .i64) (c6W p7).symm)
 ·have htd:=c8w (a:=a) (b:=b)
  refine go 6 ?_;refine o_v rfl (d1Y rfl rfl p7 ⟨by omega,by omega⟩) ?_;refine go 5 ?_;refine a2z (I':=I) (L':=[(5,.int .i64 (a.tdiv b)),(22,.bool (a9B a b))]) (H':=[]) ?_ ?_
  ·refine go 3 ?_;refine o_v rfl (b4o rfl rfl ⟨by omega,by omega⟩) ?_;refine go 3 ?_;refine sxb 16 rfl (fun h16 p16=>?_) (fun h16 p16=>?_)
   ·refine go 4 ?_;refine a0v (a0y rfl rfl h16 (a0l rfl (c1X he rfl rfl) ?_));refine go 3 ?_;exact a0E ⟨rfl,(congrArg (fun b=>some (Value.bool b)) (by simp only[a9B,h7,h16,bS])),trivial⟩ rfl rfl
   ·refine go 8 ?_;exact a0E ⟨rfl,(congrArg (fun b=>some (Value.bool b)) (by simp only[a9B,h7,h16,bS])),trivial⟩ rfl rfl
  ·refine cb rfl (fun h22 p22=>?_) (fun h22 p22=>?_)
   ·refine go 13 ?_;refine a0x rfl rfl ?_;exact q_v (congrArg (Value.int .i64) (c6V p7 h22))
   ·refine go 9 ?_;refine a0x rfl rfl ?_;exact q_v (congrArg (Value.int .i64) (c6U p7 h22))
theorem b6p (I:IMap) (a:Ivl) (ha:a2n a=true) (low high:Int) (g2 g5:Nat) (A0:Option Addr) (k0:Nat) (l:List Ivl) (hl:l.length≤1000) :
    FnH Tryz.prog 384 #[.int .i64 (low),.int .i64 (high),.pointer (some ⟨g2,0,none⟩),.pointer (some ⟨g5,0,none⟩)] I [.blk g2 44 a.cells,.blk g5 235 [.slice A0 l.length k0],.row (.slice A0 l.length k0) 44 2 (l).length (c2o (l))] (fun u _ H2=>u = .tuple #[]∧∃A k,H2=[.blk g2 44 a.cells,.blk g5 235 [.slice A (l++a3f a low high).length k],.row (.slice A (l++a3f a low high).length k) 44 2 (l++a3f a low high).length (c2o (l++a3f a low high))]):=by
 refine enter Tryz.func384 Tryz.call384 rfl Tryz.ntmps384 rfl (fun w0=>?_);refine go 7 ?_;refine cb rfl (fun h12 p12=>?_) (fun h12 p12=>?_)
 ·have hsg:a3f a low high=[a9e a low,a9e a high]:=if_pos p12
  refine go 5 ?_;refine a0e he he rfl rfl rfl rfl rfl rfl rfl (fun v15=>?_);refine a0o (l:=[low,high]) rfl rfl ((.cons rfl (.one rfl))) (fun I15 j15 R15=>?_);obtain⟨A15,c15,rfl,hA15,_,_⟩:=R15;refine go 5 ?_
  refine a3B ((0:Nat)) (A0) (k0) (fun i A1 k1=>I15)
   (fun i A1 k1=>[(2,.pointer (some ⟨g2,0,none⟩)),(3,.pointer (some ⟨g5,0,none⟩)),(15,.slice A15 [low,high].length c15),(16,.int .i64 ([low,high].length:Int)),(17,.int .i64 ((i:Nat):Int))])
   (fun i A1 k1=>[.blk g2 44 a.cells,.blk g5 235 [.slice A1 (l++[a9e a low,a9e a high].take i).length k1],.row (.slice A1 (l++[a9e a low,a9e a high].take i).length k1) 44 2 (l++[a9e a low,a9e a high].take i).length (c2o (l++[a9e a low,a9e a high].take i))])
   (fun i A1 k1=>i≤2)
   (fun i A1 k1=>2-i) (by omega) rfl sb (by simp) ?_
  intro i A1 k1 hi;refine go 6 ?_;refine cb rfl (fun h18 p18=>?_) (fun h18 p18=>?_)
  ·have hlt:i<2:=by simp at p18;omega
   have hai:=a1e.1 ha
   obtain⟨d,hd⟩:∃d,[low,high][i]=d:=⟨_,rfl⟩
   have hst:[a9e a low,a9e a high].take (i+1)=[a9e a low,a9e a high].take i++[a9e a d]:=by
     have h2:i=0∨i=1:=by omega
     rcases h2 with rfl|rfl<;>(simp at hd;subst hd;rfl)
   refine go 6 ?_;obtain⟨b19,o19,w19,e19,c19,r19⟩:=RdA.at_ hA15 (i:=i) (by omega);obtain rfl:=r19;refine o_v rfl (a0n he rfl rfl e19 (i) (by omega) (by omega)) ?_;refine o_v rfl (OV.cast (u:=.int .i64 (d)) (a0W he rfl (c19 0 _ rfl)) (congrArg (Value.int .i64) hd)) ?_;refine go 4 ?_;refine a1h T.mixed ?_;refine a0f 0 rfl rfl (by kernel_rfl) rfl (.refl _) rfl (a0d he rfl) ?_;refine a0f 1 rfl rfl (by kernel_rfl) rfl (.refl _) rfl (a6t m0 he rfl rfl) ?_;refine a0f 2 rfl rfl (by kernel_rfl) rfl (.refl _) rfl (a0c rfl) ?_;refine a0f 4 rfl rfl (by kernel_rfl) rfl (.refl _) rfl (a0d he rfl) ?_;refine a0f 5 rfl rfl (by kernel_rfl) rfl (.refl _) rfl (a6t m0 he rfl rfl) ?_;refine a0f 6 rfl rfl (by kernel_rfl) rfl (.refl _) rfl (a0c rfl) ?_;refine a0i 3 (by kernel_rfl) rfl ?_;refine a0a (c0e _ a.low d (by omega)) rfl rfl ?_;refine a0r (fun _ m=>m.keeps (.refl _)) ?_;refine a0i 7 (by kernel_rfl) rfl ?_;refine a0a (c0e _ a.high d (by omega)) rfl rfl ?_;refine a0r (fun _ m=>m.keeps (.refl _)) ?_;refine a0f 8 rfl rfl (by kernel_rfl) rfl (.refl _) rfl (a0I rfl) ?_;refine a0f 9 rfl rfl (by kernel_rfl) rfl (.refl _) rfl (a0I rfl) ?_;refine a0w (by kernel_rfl) ?_;refine go 5 ?_;refine o_v rfl (OV.cast (u:=.int .i64 (min (a3Y a.low d) (a3Y a.high d))) (b0i rfl rfl) (congrArg (Value.int .i64) (by omega))) ?_;refine go 2 ?_;refine o_v rfl (OV.cast (u:=.int .i64 (max (a3Y a.low d) (a3Y a.high d))) (a5M rfl rfl) (congrArg (Value.int .i64) (by omega))) ?_;refine go 1 ?_;refine a0l rfl (a0A (pl:=[(0,1),(1,1)]) he he rfl rfl) ?_;refine go 1 ?_;refine a0e he he rfl rfl rfl rfl rfl rfl rfl (fun v37=>?_);refine go 1 ?_;refine a1k ?_;refine a1r he he rfl rfl rfl rfl rfl (by simp;omega) (by simp;omega) rfl (fun v38=>?_);refine a4O (fun A38 c38 hv38=>?_);subst hv38;refine go 1 ?_;refine a1k ?_;refine a0m _ he rfl rfl rfl rfl rfl rfl ?_;refine go 8 ?_;refine a0u ?_;refine a0b ?_;refine a0g ?_;refine a0g ?_;refine a0u ?_;exact a1X (i+1) (A38) (c38) (by omega) (by omega) rfl sb (by rw[hst];simp[c3y,c3z];exact⟨by omega,rfl⟩)
  ·refine go 4 ?_;refine a4y rfl ?_
   have e:i=2:=(by simp at p18;omega)
   subst e;exact a4Y (fun _ m=>m) ⟨rfl,A1,k1,by rw[hsg];rfl⟩
 ·have hsg:a3f a low high=[]:=if_neg p12
  refine go 1 ?_;refine a4y rfl ?_;exact a4Y (fun _ m=>m) ⟨rfl,A0,k0,by rw[hsg,List.append_nil]⟩
theorem c3r (I:IMap) (a b:Ivl) (ha:a2n a=true) (hb:a2n b=true) :
    FnV Tryz.prog 380 #[.agg a.cells.toArray,.agg b.cells.toArray] I (.agg (c8M a b).cells.toArray):=by
 obtain⟨q0,hq0⟩:∃q0,(if b.low≤0∧b.high≥0 then [a4R] else [])=q0:=⟨_,rfl⟩
 have hQ:a4v a b=q0++a3f a (max b.low 1) b.high++a3f a b.low (min b.high (-1)):=by rw[←hq0];rfl
 have hl0:q0.length≤1:=by rw[←hq0];split<;>simp
 have hs1:=b1t a (max b.low 1) b.high
 have hqn:0<(a4v a b).length:=List.length_pos_iff.2 (c4i (a1e.1 hb).2.1)
 have hql:(a4v a b).length≤5:=by
   rw[hQ]
   simp only[List.length_append]
   have:=b1t a b.low (min b.high (-1))
   omega
 refine enter Tryz.func380 Tryz.call380 rfl Tryz.ntmps380 rfl (fun w0=>?_);refine go 3 ?_;refine a0B _ rfl rfl rfl (fun g2=>?_);refine go 1 ?_;refine a0B _ rfl rfl rfl (fun g3=>?_);refine go 1 ?_;refine a0h he rfl (fun g4=>?_);refine go 5 ?_;refine a0h he rfl (fun g5=>?_);refine go 3 ?_;refine a9u (Ix:=(fun A k=>I)) (Lx:=(fun A k=>[(2,.pointer (some ⟨g2,0,none⟩)),(3,.pointer (some ⟨g3,0,none⟩)),(4,.pointer (some ⟨g4,0,none⟩)),(5,.pointer (some ⟨g5,0,none⟩))])) (Hx:=(fun A k=>[.blk g2 44 a.cells,.blk g5 235 [.slice A q0.length k],.row (.slice A q0.length k) 44 2 (q0).length (c2o (q0)),.blk g3 44 b.cells,.blk g4 44 [.int .i64 (0),.int .i64 (0)]])) (p:=(fun A k=>True)) ?_ ?_
 ·refine go 1 ?_;refine a2z (I':=I) (L':=[(2,.pointer (some ⟨g2,0,none⟩)),(3,.pointer (some ⟨g3,0,none⟩)),(4,.pointer (some ⟨g4,0,none⟩)),(5,.pointer (some ⟨g5,0,none⟩)),(17,.bool (decide (b.low≤0)&&decide (b.high≥0)))]) (H':=[.blk g5 235 [.slice none 0 0],.blk g4 44 [.int .i64 (0),.int .i64 (0)],.blk g3 44 b.cells,.blk g2 44 a.cells]) ?_ ?_
  ·refine go 5 ?_;refine sxb 13 rfl (fun h13 p13=>?_) (fun h13 p13=>?_)
   ·refine go 6 ?_;exact a0E ⟨rfl,rfl,rfl,rfl,(congrArg (fun b=>some (Value.bool b)) (by simp only[h13,bS])),trivial⟩ rfl rfl
   ·refine go 6 ?_;exact a0E ⟨rfl,rfl,rfl,rfl,(congrArg (fun b=>some (Value.bool b)) (by simp only[h13,bS])),trivial⟩ rfl rfl
  ·refine cb rfl (fun h17 p17=>?_) (fun h17 p17=>?_)
   ·have hq1:q0=[a4R]:=by rw[←hq0,if_pos p17]
    refine go 1 ?_;refine a1s 44 2 ?_;refine go 2 ?_;refine a0l rfl (a0A (pl:=[(0,1),(1,1)]) he he rfl rfl) ?_;refine go 1 ?_;refine a0e he he rfl rfl rfl rfl rfl rfl rfl (fun v20=>?_);refine go 1 ?_;refine a0g ?_;refine a1r he he rfl rfl rfl rfl rfl (by simp) (by simp) rfl (fun v21=>?_);refine a4O (fun A21 c21 hv21=>?_);subst hv21;refine go 1 ?_;refine a0u ?_;refine a0m _ he rfl rfl rfl rfl rfl rfl ?_;refine go 2 ?_;refine a0u ?_;refine a0b ?_;refine a0u ?_;refine a1k ?_;refine a1k ?_;refine a1k ?_;refine a1o ?_;exact a3N (A21) (c21) trivial sb (by rw[hq1];rfl) rfl
   ·have hq1:q0=[]:=by rw[←hq0,if_neg (by simpa using h17)]
    refine a1s 44 2 ?_;refine go 2 ?_;refine a0u ?_;refine a1k ?_;refine a0u ?_;refine a1k ?_;refine a1o ?_;exact a3N (none) (0) trivial sb (by rw[hq1];rfl) rfl
 ·intro A k _;refine go 2 ?_;refine o_v rfl (a1a rfl rfl) ?_;refine go 8 ?_;refine o_v rfl (OV.cast (u:=.int .i64 (max b.low 1)) (a5M rfl rfl) (congrArg (Value.int .i64) (by omega))) ?_;refine go 3 ?_;refine a0u ?_;refine a0u ?_;refine a0u ?_;refine b6R (b6p _ a ha (max b.low 1) b.high g2 g5 _ _ (q0) (by first|omega|(simp only[List.length_append];omega))) rfl rfl (fun u29 I29 H29 j29 q29=>?_);obtain⟨rfl,A29,k29,rfl⟩:=q29;refine b7A ?_;refine go 9 ?_;refine o_v rfl (OV.cast (u:=.int .i64 (min b.high (-1))) (b0i rfl rfl) (congrArg (Value.int .i64) (by omega))) ?_;refine go 1 ?_;refine a0u ?_;refine a0u ?_;refine a0u ?_;refine b6R (b6p _ a ha b.low (min b.high (-1)) g2 g5 _ _ (q0++a3f a (max b.low 1) b.high) (by first|omega|(simp only[List.length_append];omega))) rfl rfl (fun u36 I36 H36 j36 q36=>?_);obtain⟨rfl,A36,k36,rfl⟩:=q36;refine b7A ?_;rw[←hQ];refine a0u ?_;refine a0o (l:=a4v a b) rfl rfl (b3p _) (fun I37 j37 R37=>?_)
  have hA37:=R37.rda
  refine go 5 ?_;obtain⟨b38,o38,w38,e38,c38,r38⟩:=RdA.at_ hA37 (i:=0) hqn;obtain rfl:=r38;refine o_v rfl (a0n he rfl rfl e38 (0) rfl hqn) ?_;refine o_v rfl (a0H he rfl c38 rfl) ?_;refine go 1 ?_;refine a0h he rfl (fun g7=>?_);refine go 1 ?_;refine a0m _ he rfl rfl rfl rfl rfl rfl ?_;refine go 11 ?_;refine a0g ?_;refine a0b ?_;refine a0g ?_;refine a0b ?_;refine a0g ?_;refine a0b ?_
  refine a1w ((0:Nat)) ((a4v a b)[0]) (fun i z=>I37)
   (fun i z=>[(4,.pointer (some ⟨g4,0,none⟩)),(7,.pointer (some ⟨g7,0,none⟩)),(40,.slice A36 (a4v a b).length k36),(41,.int .i64 ((a4v a b).length:Int)),(42,.int .i64 ((i:Nat):Int))])
   (fun i z=>[.blk g7 44 z.cells,.blk g4 44 [.int .i64 (0),.int .i64 (0)]])
   (fun i z=>i≤(a4v a b).length∧((a4v a b).take i).foldl a2R (a4v a b)[0]=z)
   (fun i z=>(a4v a b).length-i) ⟨Nat.zero_le _,rfl⟩ rfl sb rfl ?_
  intro i z ⟨hi,hz⟩;refine go 6 ?_;refine cb rfl (fun h43 p43=>?_) (fun h43 p43=>?_)
  ·have hlt:i<(a4v a b).length:=by omega
   refine go 6 ?_;obtain⟨b44,o44,w44,e44,c44,r44⟩:=RdA.at_ hA37 (i:=i) (by omega);obtain rfl:=r44;refine o_v rfl (a0n he rfl rfl e44 (i) (by omega) (by omega)) ?_;refine o_v rfl (a0H he rfl c44 rfl) ?_;refine go 1 ?_;refine a0h he rfl (fun g9=>?_);refine go 1 ?_;refine a0m _ he rfl rfl rfl rfl rfl rfl ?_;refine go 6 ?_;refine a0a (c0y _ z (a4v a b)[i]) rfl rfl ?_;refine go 1 ?_;refine a0g ?_;refine a0m _ he rfl rfl rfl rfl rfl rfl ?_;refine go 8 ?_;refine a0g ?_;refine a0b ?_;exact a0M (i+1) (_) ⟨by omega,by rw[b8h hlt,hz]⟩ (by omega) rfl sb rfl
  ·refine go 9 ?_;refine a0g ?_;refine a0m _ he rfl rfl rfl rfl rfl rfl ?_;refine go 3 ?_;refine a0x rfl ⟨_,_,_,rfl,m0,.inr ⟨_,he,rfl,rfl⟩⟩ ?_
   have e:i=(a4v a b).length:=(by omega)
   subst e;rw[List.take_length]at hz
   exact a8c (by rw[←hz,c9w hqn])
theorem c7Y (I:IMap) (u:Use) (op:Int) (a b:Ivl) (ha:a2n a=true) (hb:a2n b=true) :
    FnV Tryz.prog 374 #[.agg u.cells.toArray,.int .i64 (op),.agg a.cells.toArray,.agg b.cells.toArray] I (.agg (a5Q op a b).cells.toArray):=by
 refine enter Tryz.func374 Tryz.call374 rfl Tryz.ntmps374 rfl (fun w0=>?_);refine go 3 ?_;refine a0B _ rfl rfl rfl (fun g4=>?_);refine go 1 ?_;refine a0B _ rfl rfl rfl (fun g6=>?_);refine go 1 ?_;refine a0B _ rfl rfl rfl (fun g7=>?_);refine go 1 ?_;refine a0h he rfl (fun g8=>?_);refine go 15 ?_;refine cb rfl (fun h10 p10=>?_) (fun h10 p10=>?_)
 ·refine go 5 ?_;refine a0a (a2m _ a b) rfl rfl ?_;refine go 1 ?_;refine a0m _ he rfl rfl rfl rfl rfl rfl ?_;refine go 5 ?_;refine a0x rfl ⟨_,_,_,rfl,m0,.inr ⟨_,he,rfl,rfl⟩⟩ ?_;exact q_v (by unfold a5Q;repeat (first|rw[if_pos (by assumption)] | rw[if_neg (by assumption)] | rfl))
 ·refine go 6 ?_;refine cb rfl (fun h15 p15=>?_) (fun h15 p15=>?_)
  ·refine go 5 ?_;refine a0a (d1F _ a b) rfl rfl ?_;refine go 1 ?_;refine a0m _ he rfl rfl rfl rfl rfl rfl ?_;refine go 5 ?_;refine a0x rfl ⟨_,_,_,rfl,m0,.inr ⟨_,he,rfl,rfl⟩⟩ ?_;exact q_v (by unfold a5Q;repeat (first|rw[if_pos (by assumption)] | rw[if_neg (by assumption)] | rfl))
  ·refine go 6 ?_;refine cb rfl (fun h20 p20=>?_) (fun h20 p20=>?_)
   ·refine go 5 ?_;refine a0a (d1E _ a b) rfl rfl ?_;refine go 1 ?_;refine a0m _ he rfl rfl rfl rfl rfl rfl ?_;refine go 5 ?_;refine a0x rfl ⟨_,_,_,rfl,m0,.inr ⟨_,he,rfl,rfl⟩⟩ ?_;exact q_v (by unfold a5Q;repeat (first|rw[if_pos (by assumption)] | rw[if_neg (by assumption)] | rfl))
   ·refine go 6 ?_;refine cb rfl (fun h25 p25=>?_) (fun h25 p25=>?_)
    ·refine go 6 ?_;refine o_v rfl (OV.cast (u:=.int .i64 (min a.low b.low)) (b0i rfl rfl) (congrArg (Value.int .i64) (by omega))) ?_;refine go 4 ?_;refine o_v rfl (OV.cast (u:=.int .i64 (min a.high b.high)) (b0i rfl rfl) (congrArg (Value.int .i64) (by omega))) ?_;refine go 1 ?_;refine a0l rfl (a0A (pl:=[(0,1),(1,1)]) he he rfl rfl) ?_;refine go 1 ?_;refine a0m _ he rfl rfl rfl rfl rfl rfl ?_;refine go 5 ?_;refine a0x rfl ⟨_,_,_,rfl,m0,.inr ⟨_,he,rfl,rfl⟩⟩ ?_;exact q_v (by unfold a5Q;repeat (first|rw[if_pos (by assumption)] | rw[if_neg (by assumption)] | rfl))
    ·refine go 6 ?_;refine cb rfl (fun h38 p38=>?_) (fun h38 p38=>?_)
     ·refine go 6 ?_;refine o_v rfl (OV.cast (u:=.int .i64 (max a.low b.low)) (a5M rfl rfl) (congrArg (Value.int .i64) (by omega))) ?_;refine go 4 ?_;refine o_v rfl (OV.cast (u:=.int .i64 (max a.high b.high)) (a5M rfl rfl) (congrArg (Value.int .i64) (by omega))) ?_;refine go 1 ?_;refine a0l rfl (a0A (pl:=[(0,1),(1,1)]) he he rfl rfl) ?_;refine go 1 ?_;refine a0m _ he rfl rfl rfl rfl rfl rfl ?_;refine go 5 ?_;refine a0x rfl ⟨_,_,_,rfl,m0,.inr ⟨_,he,rfl,rfl⟩⟩ ?_;exact q_v (by unfold a5Q;repeat (first|rw[if_pos (by assumption)] | rw[if_neg (by assumption)] | rfl))
     ·refine go 8 ?_;refine a0a (c3r _ a b ha hb) rfl rfl ?_;refine go 1 ?_;refine a0m _ he rfl rfl rfl rfl rfl rfl ?_;refine go 3 ?_;refine a0x rfl ⟨_,_,_,rfl,m0,.inr ⟨_,he,rfl,rfl⟩⟩ ?_;exact q_v (by unfold a5Q;repeat (first|rw[if_pos (by assumption)] | rw[if_neg (by assumption)] | rfl))
theorem c4t (I:IMap) (u:Use) (a b c:Ivl) :
    FnV Tryz.prog 375 #[.agg u.cells.toArray,.agg a.cells.toArray,.agg b.cells.toArray,.agg c.cells.toArray] I (.agg (a6C a b c).cells.toArray):=by
 refine enter Tryz.func375 Tryz.call375 rfl Tryz.ntmps375 rfl (fun w0=>?_);refine go 3 ?_;refine a0B _ rfl rfl rfl (fun g4=>?_);refine go 1 ?_;refine a0B _ rfl rfl rfl (fun g5=>?_);refine go 1 ?_;refine a0B _ rfl rfl rfl (fun g6=>?_);refine go 1 ?_;refine a0B _ rfl rfl rfl (fun g7=>?_);refine go 1 ?_;refine a0h he rfl (fun g8=>?_);refine go 7 ?_;refine a0a (c9M _ a 0) rfl rfl ?_;refine go 9 ?_;refine cb rfl (fun h11 p11=>?_) (fun h11 p11=>?_)
 ·refine go 4 ?_;refine a0m _ he rfl rfl rfl rfl rfl rfl ?_;refine go 5 ?_;refine a0x rfl ⟨_,_,_,rfl,m0,.inr ⟨_,he,rfl,rfl⟩⟩ ?_;exact q_v (by unfold a6C;repeat (first|rw[if_pos (by assumption)] | rw[if_neg (by assumption)] | rfl))
 ·refine go 6 ?_;refine cb rfl (fun h14 p14=>?_) (fun h14 p14=>?_)
  ·refine go 4 ?_;refine a0m _ he rfl rfl rfl rfl rfl rfl ?_;refine go 5 ?_;refine a0x rfl ⟨_,_,_,rfl,m0,.inr ⟨_,he,rfl,rfl⟩⟩ ?_;exact q_v (by unfold a6C;repeat (first|rw[if_pos (by assumption)] | rw[if_neg (by assumption)] | rfl))
  ·refine go 8 ?_;refine a0a (c0y _ b c) rfl rfl ?_;refine go 1 ?_;refine a0m _ he rfl rfl rfl rfl rfl rfl ?_;refine go 3 ?_;refine a0x rfl ⟨_,_,_,rfl,m0,.inr ⟨_,he,rfl,rfl⟩⟩ ?_;exact q_v (by unfold a6C;repeat (first|rw[if_pos (by assumption)] | rw[if_neg (by assumption)] | rfl))
theorem c4u (I:IMap) (u:Use) (op:Int) :
    FnV Tryz.prog 376 #[.agg u.cells.toArray,.int .i64 (op)] I (.agg (a6K u op).cells.toArray):=by
 refine enter Tryz.func376 Tryz.call376 rfl Tryz.ntmps376 rfl (fun w0=>?_);refine go 3 ?_;refine a0B _ rfl rfl rfl (fun g2=>?_);refine go 1 ?_;refine a0h he rfl (fun g4=>?_);refine go 15 ?_;refine cb rfl (fun h6 p6=>?_) (fun h6 p6=>?_)
 ·refine go 4 ?_;refine o_v rfl (a2o (u.km.cells) m1 he rfl rfl rfl) ?_;refine go 1 ?_;refine a0m _ he rfl rfl rfl rfl rfl rfl ?_;refine go 5 ?_;refine a0x rfl ⟨_,_,_,rfl,m0,.inr ⟨_,he,rfl,rfl⟩⟩ ?_;exact q_v (by unfold a6K;repeat (first|rw[if_pos (by assumption)] | rw[if_neg (by assumption)] | rfl))
 ·refine go 6 ?_;refine cb rfl (fun h11 p11=>?_) (fun h11 p11=>?_)
  ·refine go 4 ?_;refine o_v rfl (a2o (u.cycles.cells) m1 he rfl rfl rfl) ?_;refine go 1 ?_;refine a0m _ he rfl rfl rfl rfl rfl rfl ?_;refine go 5 ?_;refine a0x rfl ⟨_,_,_,rfl,m0,.inr ⟨_,he,rfl,rfl⟩⟩ ?_;exact q_v (by unfold a6K;repeat (first|rw[if_pos (by assumption)] | rw[if_neg (by assumption)] | rfl))
  ·refine go 7 ?_;refine o_v rfl (a2o (u.load.cells) m1 he rfl rfl rfl) ?_;refine go 1 ?_;refine a0m _ he rfl rfl rfl rfl rfl rfl ?_;refine go 3 ?_;refine a0x rfl ⟨_,_,_,rfl,m0,.inr ⟨_,he,rfl,rfl⟩⟩ ?_;exact q_v (by unfold a6K;repeat (first|rw[if_pos (by assumption)] | rw[if_neg (by assumption)] | rfl))
theorem c4v (I:IMap) (u:Use) (n:Int) :
    FnV Tryz.prog 377 #[.agg u.cells.toArray,.int .i64 (n)] I (.agg #[.int .i64 (n),.int .i64 (n)]):=by
 refine enter Tryz.func377 Tryz.call377 rfl Tryz.ntmps377 rfl (fun w0=>?_);refine go 3 ?_;refine a0B _ rfl rfl rfl (fun g2=>?_);refine go 1 ?_;refine a0h he rfl (fun g4=>?_);refine go 7 ?_;refine a0l rfl (a0A (pl:=[(0,1),(1,1)]) he he rfl rfl) ?_;refine go 1 ?_;refine a0m _ he rfl rfl rfl rfl rfl rfl ?_;refine go 3 ?_;refine a0x rfl ⟨_,_,_,rfl,m0,.inr ⟨_,he,rfl,rfl⟩⟩ ?_;exact q_v rfl
theorem b8g (I:IMap) (u:Use) (hu:a8k u=true) (N:Nat) (ih:∀(f:Fm),cntN f≤N→∀vs,FmRd I vs f→rightF f=true→FnV Tryz.prog 158 #[.iface 238 (.agg u.cells.toArray),.agg vs.toArray] I (.agg (a3g u f).cells.toArray)) (f:Fm) (hN:cntN f≤N+1) (vs:List Value) (hr:FmRd I vs f) (hR:rightF f=true) :
    FnV Tryz.prog 158 #[.iface 238 (.agg u.cells.toArray),.agg vs.toArray] I (.agg (a3g u f).cells.toArray):=by
 obtain⟨s,rfl,hs⟩:=a4V hr;obtain⟨A,c0,rfl,hA,hc,hm⟩:=hs;refine enter Tryz.func158 Tryz.call158 rfl Tryz.ntmps158 rfl (fun w0=>?_);refine go 3 ?_;refine a0B _ rfl rfl rfl (fun g3=>?_);refine go 1 ?_;refine a0h he rfl (fun g4=>?_);refine go 12 ?_;refine cb rfl (fun h5 p5=>?_) (fun h5 p5=>?_)
 ·refine go 6 ?_;refine b6S he (c4v _ u f.n) rfl rfl rfl ?_;refine go 1 ?_;refine a0m _ he rfl rfl rfl rfl rfl rfl ?_;refine go 5 ?_;refine a0x rfl ⟨_,_,_,rfl,m0,.inr ⟨_,he,rfl,rfl⟩⟩ ?_;exact q_v (by rw[c4J hR p5];rfl)
 ·refine go 8 ?_;refine cb rfl (fun h13 p13=>?_) (fun h13 p13=>?_)
  ·refine go 6 ?_;refine b6S he (c4u _ u f.op) rfl rfl rfl ?_;refine go 1 ?_;refine a0m _ he rfl rfl rfl rfl rfl rfl ?_;refine go 5 ?_;refine a0x rfl ⟨_,_,_,rfl,m0,.inr ⟨_,he,rfl,rfl⟩⟩ ?_;exact q_v (by rw[b5I hR p5 p13])
  ·refine go 8 ?_;refine cb rfl (fun h21 p21=>?_) (fun h21 p21=>?_)
   ·have h3:=d1H hR p21
    refine go 1 ?_;refine a1t T.mixed ?_;refine a0f 0 rfl rfl (by kernel_rfl) rfl (.cons _ (.refl _)) rfl (a0c rfl) ?_;refine a0f 1 rfl rfl (by kernel_rfl) rfl (.cons _ (.refl _)) rfl (a0c rfl) ?_;refine a0f 2 rfl rfl (by kernel_rfl) rfl (.cons _ (.refl _)) rfl (a0d he rfl) ?_;refine a0f 3 rfl rfl (by kernel_rfl) rfl (.cons _ (.refl _)) rfl (a6t m0 he rfl rfl) ?_;obtain⟨b29,o29,w29,e29,c29,r29⟩:=RdA.at_ hA (i:=0) (by omega)
    replace r29:=a4V r29
    obtain⟨s29,rfl,hs29⟩:=r29;refine a0f 4 rfl rfl (by kernel_rfl) rfl (.cons _ (.refl _)) rfl (a0n he rfl rfl e29 (0) rfl (by omega)) ?_;refine a0f 5 rfl rfl (by kernel_rfl) rfl (.cons _ (.refl _)) rfl (a0H he rfl c29 rfl) ?_;refine a0f 7 rfl rfl (by kernel_rfl) rfl (.cons _ (.refl _)) rfl (a0c rfl) ?_;refine a0f 8 rfl rfl (by kernel_rfl) rfl (.cons _ (.refl _)) rfl (a0d he rfl) ?_;refine a0f 9 rfl rfl (by kernel_rfl) rfl (.cons _ (.refl _)) rfl (a6t m0 he rfl rfl) ?_;obtain⟨b35,o35,w35,e35,c35,r35⟩:=RdA.at_ hA (i:=1) (by omega)
    replace r35:=a4V r35
    obtain⟨s35,rfl,hs35⟩:=r35;refine a0f 10 rfl rfl (by kernel_rfl) rfl (.cons _ (.refl _)) rfl (a0n he rfl rfl e35 (1) rfl (by omega)) ?_;refine a0f 11 rfl rfl (by kernel_rfl) rfl (.cons _ (.refl _)) rfl (a0H he rfl c35 rfl) ?_;refine a0f 13 rfl rfl (by kernel_rfl) rfl (.cons _ (.refl _)) rfl (a0c rfl) ?_;refine a0f 14 rfl rfl (by kernel_rfl) rfl (.cons _ (.refl _)) rfl (a0d he rfl) ?_;refine a0f 15 rfl rfl (by kernel_rfl) rfl (.cons _ (.refl _)) rfl (a6t m0 he rfl rfl) ?_;obtain⟨b41,o41,w41,e41,c41,r41⟩:=RdA.at_ hA (i:=2) (by omega)
    replace r41:=a4V r41
    obtain⟨s41,rfl,hs41⟩:=r41;refine a0f 16 rfl rfl (by kernel_rfl) rfl (.cons _ (.refl _)) rfl (a0n he rfl rfl e41 (2) rfl (by omega)) ?_;refine a0f 17 rfl rfl (by kernel_rfl) rfl (.cons _ (.refl _)) rfl (a0H he rfl c41 rfl) ?_;refine a0f 19 rfl rfl (by kernel_rfl) rfl (.cons _ (.refl _)) rfl (a1a rfl rfl) ?_;refine a0f 20 rfl rfl (by kernel_rfl) rfl (.cons _ (.refl _)) rfl (b4p he rfl) ?_;refine a0f 21 rfl rfl (by kernel_rfl) rfl (.cons _ (.refl _)) rfl (a0c rfl) ?_;refine a0i 6 (by kernel_rfl) rfl ?_;refine a0a (ih (f.kids[0]'(by omega)) (by have:=a5R (List.getElem_mem (show 0<f.kids.length by omega));omega) _ (a5d hs29) (a4J hR 0 _)) rfl rfl ?_;refine a0r (fun _ m=>m.keeps (.cons _ (.refl _))) ?_;refine a0i 12 (by kernel_rfl) rfl ?_;refine a0a (ih (f.kids[1]'(by omega)) (by have:=a5R (List.getElem_mem (show 1<f.kids.length by omega));omega) _ (a5d hs35) (a4J hR 1 _)) rfl rfl ?_;refine a0r (fun _ m=>m.keeps (.cons _ (.refl _))) ?_;refine a0i 18 (by kernel_rfl) rfl ?_;refine a0a (ih (f.kids[2]'(by omega)) (by have:=a5R (List.getElem_mem (show 2<f.kids.length by omega));omega) _ (a5d hs41) (a4J hR 2 _)) rfl rfl ?_;refine a0r (fun _ m=>m.keeps (.cons _ (.refl _))) ?_;refine a0i 22 (by kernel_rfl) rfl ?_;refine b6S he (c4t _ u _ _ _) rfl rfl rfl ?_;refine a0r (fun _ m=>m.keeps (.cons _ (.refl _))) ?_;refine a0i 23 (by kernel_rfl) rfl ?_;refine a0m _ he rfl rfl rfl rfl rfl rfl ?_;refine a0r (fun _ m=>m.keeps (.cons _ (.refl _))) ?_;refine a0w (by kernel_rfl) ?_;refine go 4 ?_;refine a0x rfl ⟨_,_,_,rfl,m0,.inr ⟨_,he,rfl,rfl⟩⟩ ?_;exact q_v (by rw[c8o h3])
   ·have h2:=d1G hR p21 p13
    refine go 4 ?_;refine a1t T.mixed ?_;refine a0f 0 rfl rfl (by kernel_rfl) rfl (.cons _ (.refl _)) rfl (a0c rfl) ?_;refine a0f 1 rfl rfl (by kernel_rfl) rfl (.cons _ (.refl _)) rfl (a0d he rfl) ?_;refine a0f 2 rfl rfl (by kernel_rfl) rfl (.cons _ (.refl _)) rfl (a6t m0 he rfl rfl) ?_;refine a0f 3 rfl rfl (by kernel_rfl) rfl (.cons _ (.refl _)) rfl (a0c rfl) ?_;refine a0f 4 rfl rfl (by kernel_rfl) rfl (.cons _ (.refl _)) rfl (a0d he rfl) ?_;refine a0f 5 rfl rfl (by kernel_rfl) rfl (.cons _ (.refl _)) rfl (a6t m0 he rfl rfl) ?_;obtain⟨b54,o54,w54,e54,c54,r54⟩:=RdA.at_ hA (i:=0) (by omega)
    replace r54:=a4V r54
    obtain⟨s54,rfl,hs54⟩:=r54;refine a0f 6 rfl rfl (by kernel_rfl) rfl (.cons _ (.refl _)) rfl (a0n he rfl rfl e54 (0) rfl (by omega)) ?_;refine a0f 7 rfl rfl (by kernel_rfl) rfl (.cons _ (.refl _)) rfl (a0H he rfl c54 rfl) ?_;refine a0f 9 rfl rfl (by kernel_rfl) rfl (.cons _ (.refl _)) rfl (a0c rfl) ?_;refine a0f 10 rfl rfl (by kernel_rfl) rfl (.cons _ (.refl _)) rfl (a0d he rfl) ?_;refine a0f 11 rfl rfl (by kernel_rfl) rfl (.cons _ (.refl _)) rfl (a6t m0 he rfl rfl) ?_;obtain⟨b60,o60,w60,e60,c60,r60⟩:=RdA.at_ hA (i:=1) (by omega)
    replace r60:=a4V r60
    obtain⟨s60,rfl,hs60⟩:=r60;refine a0f 12 rfl rfl (by kernel_rfl) rfl (.cons _ (.refl _)) rfl (a0n he rfl rfl e60 (1) rfl (by omega)) ?_;refine a0f 13 rfl rfl (by kernel_rfl) rfl (.cons _ (.refl _)) rfl (a0H he rfl c60 rfl) ?_;refine a0f 15 rfl rfl (by kernel_rfl) rfl (.cons _ (.refl _)) rfl (a1a rfl rfl) ?_;refine a0f 16 rfl rfl (by kernel_rfl) rfl (.cons _ (.refl _)) rfl (b4p he rfl) ?_;refine a0f 17 rfl rfl (by kernel_rfl) rfl (.cons _ (.refl _)) rfl (a0c rfl) ?_;refine a0i 8 (by kernel_rfl) rfl ?_;refine a0a (ih (f.kids[0]'(by omega)) (by have:=a5R (List.getElem_mem (show 0<f.kids.length by omega));omega) _ (a5d hs54) (a4J hR 0 _)) rfl rfl ?_;refine a0r (fun _ m=>m.keeps (.cons _ (.refl _))) ?_;refine a0i 14 (by kernel_rfl) rfl ?_;refine a0a (ih (f.kids[1]'(by omega)) (by have:=a5R (List.getElem_mem (show 1<f.kids.length by omega));omega) _ (a5d hs60) (a4J hR 1 _)) rfl rfl ?_;refine a0r (fun _ m=>m.keeps (.cons _ (.refl _))) ?_;refine a0i 18 (by kernel_rfl) rfl ?_;refine b6S he (c7Y _ u _ _ _ (a6R hu _ (a4J hR 0 (by omega))) (a6R hu _ (a4J hR 1 (by omega)))) rfl rfl rfl ?_;refine a0r (fun _ m=>m.keeps (.cons _ (.refl _))) ?_;refine a0i 19 (by kernel_rfl) rfl ?_;refine a0m _ he rfl rfl rfl rfl rfl rfl ?_;refine a0r (fun _ m=>m.keeps (.cons _ (.refl _))) ?_;refine a0w (by kernel_rfl) ?_;refine go 2 ?_;refine a0x rfl ⟨_,_,_,rfl,m0,.inr ⟨_,he,rfl,rfl⟩⟩ ?_;exact q_v (by rw[c4K h2])
theorem d1B (I:IMap) (u:Use) (hu:a8k u=true) (f:Fm) (vs:List Value) (hr:FmRd I vs f) (hR:rightF f=true):FnV Tryz.prog 158 #[.iface 238 (.agg u.cells.toArray),.agg vs.toArray] I (.agg (a3g u f).cells.toArray):=by
 have key:∀(N:Nat) (f:Fm),cntN f≤N→∀vs,FmRd I vs f→rightF f=true→FnV Tryz.prog 158 #[.iface 238 (.agg u.cells.toArray),.agg vs.toArray] I (.agg (a3g u f).cells.toArray):=by
  intro N
  induction N with
  |zero=>intro f hN;exact absurd hN (by cases f;simp[cntN])
  |succ N ih=>intro f hN vs hr hR;exact b8g I u hu N ih f hN vs hr hR
 exact key (cntN f) f (Nat.le_refl _) vs hr hR
theorem c3q (I:IMap) (f:Fm) (vs:List Value) (hr:FmRd I vs f) (u:Use) :
    FnV Tryz.prog 93 #[.agg vs.toArray,.agg u.cells.toArray] I (.agg (b0p f u).cells.toArray):=by
 obtain⟨s,rfl,hs⟩:=a4V hr;obtain⟨A,c0,rfl,hA,hc,hm⟩:=hs;refine enter Tryz.func93 Tryz.call93 rfl Tryz.ntmps93 rfl (fun w0=>?_);refine go 3 ?_;refine a0B _ rfl rfl rfl (fun g2=>?_);refine go 1 ?_;refine a0B _ rfl rfl rfl (fun g3=>?_);refine go 1 ?_;refine a0h he rfl (fun g4=>?_);refine go 6 ?_;refine o_v rfl (a2o (u.km.cells) m1 he rfl rfl rfl) ?_;refine go 1 ?_;refine o_v rfl (a2o (u.cycles.cells) m1 he rfl rfl rfl) ?_;refine go 1 ?_;refine o_v rfl (a2o (u.load.cells) m1 he rfl rfl rfl) ?_;refine go 1 ?_;refine a0e he he rfl rfl rfl rfl rfl rfl rfl (fun v14=>?_);refine a0o (l:=[u.km,u.cycles,u.load]) rfl rfl ((b3p [u.km,u.cycles,u.load])) (fun I14 j14 R14=>?_)
 have hr:=hr.le j14
 obtain⟨A14,c14,rfl,hA14,_,_⟩:=R14;refine go 5 ?_;refine a0g ?_;refine a0u ?_
 refine a0L (α:=Nat) 0 (fun i=>I14)
  (fun i=>[(2,.pointer (some ⟨g2,0,none⟩)),(3,.pointer (some ⟨g3,0,none⟩)),(4,.pointer (some ⟨g4,0,none⟩)),(14,.slice A14 [u.km,u.cycles,u.load].length c14),(15,.int .i64 ([u.km,u.cycles,u.load].length:Int)),(16,.int .i64 ((i:Nat):Int))])
  (fun i=>[.blk g2 70 [ci f.op,ci f.n,.slice A f.kids.length c0],.blk g3 94 u.cells,.blk g4 44 [.int .i64 (0),.int .i64 (0)]])
  (fun i=>i≤3∧a3A (fun _ q=>a8j q) [u.km,u.cycles,u.load] i=true)
  (fun i=>3-i) ⟨by omega,rfl⟩ rfl sb rfl ?_
 intro i ⟨hi,hn⟩;refine go 6 ?_;refine cb rfl (fun h17 p17=>?_) (fun h17 p17=>?_)
 ·have hlt:i<3:=by simp at p17;omega
  refine go 6 ?_;obtain⟨b18,o18,w18,e18,c18,r18⟩:=RdA.at_ hA14 (i:=i) (by omega);obtain rfl:=r18;refine o_v rfl (a0n he rfl rfl e18 (i) (by omega) (by omega)) ?_;refine o_v rfl (a0H he rfl c18 rfl) ?_;refine go 1 ?_;refine a0h he rfl (fun g6=>?_);refine go 1 ?_;refine a0m _ he rfl rfl rfl rfl rfl rfl ?_;refine go 3 ?_;refine a2z (I':=I14) (L':=[(2,.pointer (some ⟨g2,0,none⟩)),(3,.pointer (some ⟨g3,0,none⟩)),(4,.pointer (some ⟨g4,0,none⟩)),(14,.slice A14 [u.km,u.cycles,u.load].length c14),(15,.int .i64 ([u.km,u.cycles,u.load].length:Int)),(16,.int .i64 ((i:Nat):Int)),(6,.pointer (some ⟨g6,0,none⟩)),(34,.bool (!a8j [u.km,u.cycles,u.load][i]))]) (H':=[.blk g6 44 [u.km,u.cycles,u.load][i].cells,.blk g2 70 [ci f.op,ci f.n,.slice A f.kids.length c0],.blk g3 94 u.cells,.blk g4 44 [.int .i64 (0),.int .i64 (0)]]) ?_ ?_
  ·refine go 5 ?_;refine sxb 23 rfl (fun h23 p23=>?_) (fun h23 p23=>?_)
   ·refine go 13 ?_;exact a0E ⟨rfl,rfl,rfl,rfl,rfl,rfl,rfl,(congrArg (fun b=>some (Value.bool b)) (by simp only[a8j,Bool.not_not,h17,h23,bS])),trivial⟩ rfl rfl
   ·refine go 7 ?_;refine sxb 30 rfl (fun h30 p30=>?_) (fun h30 p30=>?_)
    ·refine go 6 ?_;exact a0E ⟨rfl,rfl,rfl,rfl,rfl,rfl,rfl,(congrArg (fun b=>some (Value.bool b)) (by simp only[a8j,Bool.not_not,h17,h23,h30,bS])),trivial⟩ rfl rfl
    ·refine go 6 ?_;exact a0E ⟨rfl,rfl,rfl,rfl,rfl,rfl,rfl,(congrArg (fun b=>some (Value.bool b)) (by simp only[a8j,Bool.not_not,h17,h23,h30,bS])),trivial⟩ rfl rfl
  ·refine cb rfl (fun h34 p34=>?_) (fun h34 p34=>?_)
   ·refine go 3 ?_;refine a0l rfl (a0A (pl:=[(0,1),(1,1)]) he he rfl rfl) ?_;refine go 1 ?_;refine a1k ?_;refine a0m _ he rfl rfl rfl rfl rfl rfl ?_;refine go 8 ?_;refine a0x rfl ⟨_,_,_,rfl,m0,.inr ⟨_,he,rfl,rfl⟩⟩ ?_;exact a8c (by rw[c9u (d0H hlt (by simpa using h34))];rfl)
   ·refine go 8 ?_;refine a0b ?_;exact a0J (i+1) ⟨by omega,a1M (f:=fun _ q=>a8j q) hn (show i<[u.km,u.cycles,u.load].length from hlt) (by simpa using h34)⟩ (by omega) rfl sb rfl
 ·have e:i=3:=(by simp at p17;omega)
  subst e
  have hu:a8k u=true:=c8B hn
  refine go 10 ?_;refine a0a (c0f _ f _ hr) rfl rfl ?_;refine go 3 ?_;refine cb rfl (fun h39 p39=>?_) (fun h39 p39=>?_)
  ·refine go 3 ?_;refine a0l rfl (a0A (pl:=[(0,1),(1,1)]) he he rfl rfl) ?_;refine go 1 ?_;refine a0u ?_;refine a0m _ he rfl rfl rfl rfl rfl rfl ?_;refine go 4 ?_;refine a0x rfl ⟨_,_,_,rfl,m0,.inr ⟨_,he,rfl,rfl⟩⟩ ?_;exact a8c (by rw[c6F hu (by simpa using h39)];rfl)
  ·have hv:a1G f=true:=by simpa using h39
   refine go 6 ?_;refine a0l rfl (a0A (pl:=[(0,6)]) he he rfl rfl) ?_;refine o_v rfl (c8E T.stk_238 rfl) ?_;refine go 2 ?_;refine a0a (d1B _ u hu f _ hr (by simp only[a1G,Bool.and_eq_true]at hv;exact hv.2)) rfl rfl ?_;refine go 1 ?_;refine a0h he rfl (fun g7=>?_);refine go 1 ?_;refine a0m _ he rfl rfl rfl rfl rfl rfl ?_;refine go 6 ?_;refine o_v rfl (OV.cast (u:=.int .i64 (max 0 (a3g u f).low)) (a5M rfl rfl) (congrArg (Value.int .i64) (by omega))) ?_;refine go 2 ?_;refine o_v rfl (OV.cast (u:=.int .i64 (max 0 (a3g u f).high)) (a5M rfl rfl) (congrArg (Value.int .i64) (by omega))) ?_;refine go 1 ?_;refine a0l rfl (a0A (pl:=[(0,1),(1,1)]) he he rfl rfl) ?_;refine go 1 ?_;refine a1k ?_;refine a0m _ he rfl rfl rfl rfl rfl rfl ?_;refine go 3 ?_;refine a0x rfl ⟨_,_,_,rfl,m0,.inr ⟨_,he,rfl,rfl⟩⟩ ?_;exact a8c (by rw[c6G hu hv];rfl)
end Go.Proofs.YtdapmfkbpnjkmaaGreat
set_option linter.all false
namespace Go.Sx
open Go
section
variable {c:List Kind} {f:Fm} {st:List Part} {p:Part} {e:Evt} {d:Ivl} {l:List Evt}
theorem a9r {a b:Bool} (h:¬(!a || !b)=true):a=true∧b=true:=by cases a<;>cases b<;>simp_all
theorem b2O (h:(a0p c st e).2=0):Inc Part.name st∧st.length≤20000:=by
 unfold a0p at h
 split at h
 ·cases h
 ·rename_i h2
  have:a3x c st=true∧a1H e=true:=by simpa using h2
  have h3:=b1A this.1
  exact⟨c5u h3.1,h3.2⟩
theorem a6X (h:(a0p c st e).2=0) (h4:e.op=4):(a0p c st e).1=st:=by
 have hi:=(b2O h).1
 unfold a0p at h ⊢
 split at h
 ·cases h
 ·rename_i h0
  rw[if_neg h0,if_neg (by omega)]at *
  unfold a0G at h ⊢
  split at h
  ·cases h
  ·rename_i h1
   rw[if_neg h1]
   split at h
   ·cases h
   ·rename_i h2
    rw[if_neg h2]
    have hm:a1I st e∈st:=a9V (a9r h1).1
    unfold a1C at h ⊢
    rw[if_neg (by omega),if_neg (by omega),if_pos h4]at *
    unfold a1y at h ⊢
    split at h
    ·cases h
    ·rename_i h3
     rw[if_neg h3];exact c4h hi hm
end
end Go.Sx
set_option linter.all false
namespace Go.Sx
open Go
open Go.ChangeMaps (setBlock)
structure ItS where
 es:Array MapEntry
 clock:Nat
 seen:Array Nat
def ItS.it (S:ItS) (m:Nat):Obj:=.mapIter (some m) S.clock S.seen S.clock
def ItS.mp (S:ItS):Obj:=.map S.es S.clock
structure ItS.Ok {κ:Type} (enc:κ→Value) (kvs:List (κ×Value)) (S:ItS):Prop where
 all:S.es.toList.map (fun e=>(e.key,e.val))=a2t enc kvs
 nd:(S.es.toList.map (·.born)).Nodup
 old:∀e∈S.es.toList,e.born<S.clock
def ItS.Todo {κ:Type} (enc:κ→Value) (todo:List (κ×Value)) (S:ItS):Prop:=(leftOf S.es S.seen).toList.map (fun e=>(e.key,e.val))=a2t enc todo
def ItS.At {κ:Type} (enc:κ→Value) (p:κ×Value) (S:ItS):Prop:=∃(e:MapEntry) (seen0:Array Nat),S.seen=seen0.push e.born∧e∈S.es.toList∧e.key=enc p.1∧e.val=p.2
inductive ItS.Step {κ:Type} (enc:κ→Value) (kvs todo:List (κ×Value)) (S:ItS):Option (κ×Value)→ItS→List (κ×Value)→Prop
 |over (h:todo=[]):ItS.Step enc kvs todo S none S todo
 |come (p:κ×Value) (a b:List (κ×Value)) (S':ItS) (h:todo=a++p::b) (h1:S'.Ok enc kvs) (h2:S'.Todo enc (a++b)) (h3:S'.At enc p):ItS.Step enc kvs todo S (some p) S' (a++b)
def c3N {κ:Type} (enc:κ→Value):Option (κ×Value)→Array Value
 |none=>#[.bool false]
 |some p=>#[.bool true,enc p.1,p.2]
theorem c0T {κ:Type} (enc:κ→Value) (q:Option (κ×Value)):(c3N enc q)[0]? = some (.bool q.isSome):=by cases q<;>rfl
theorem c2U {κ:Type} {enc:κ→Value} {x:Value×Value}:∀{l a b:List (Value×Value)} {todo:List (κ×Value)},l=a2t enc todo→l=a++x::b→∃(p:κ×Value) (a' b':List (κ×Value)),todo=a'++p::b'∧a2t enc a'=a∧a2t enc b'=b∧(enc p.1,p.2)=x
 |_,a,b,todo,rfl,h=>by
  have h1:todo.map (fun p=>(enc p.1,p.2))=a++x::b:=h
  obtain⟨a',c',rfl,h2,h3⟩:=List.map_eq_append_iff.1 h1;obtain⟨p,b',rfl,h4,h5⟩:=List.map_eq_cons_iff.1 h3;exact⟨p,a',b',rfl,h2,h5,h4⟩
section
variable {P:Program} {ρ:Option Nat} {n:Sz} {E:Ent} {I:IMap} {L:LL} {H:List Res} {Q:Exit→Act→World→Prop} {ops:Array Oper} {K:Act→World→Prop}
variable {d ty:Nat} {pos:String} {af:Array Edge} {x y:Operand} {κ:Type} [DecidableEq κ] {enc:κ→Value} {kvs todo:List (κ×Value)} {S:ItS} {m r:Nat}
theorem b1v (h:∀S:ItS,S.Ok enc kvs→S.Todo enc kvs→S.seen=#[]→SX n E I L (.any m S.mp::H) K):SX n E I L (.mp m (a2t enc kvs)::H) K:=by
 intro a w s mm;obtain⟨entries,clock,h1,h2,h3,h4⟩:=mm.mp (List.mem_cons_self ..);refine h ⟨entries,clock,#[]⟩ ⟨h2,h3,h4⟩ ?_ rfl a w s (mm.step rfl ⟨rfl,Nat.le_refl _⟩ rfl (Nat.le_refl _) (fun _ _ _=>rfl) h1 (fun g hg=>.inl hg));unfold ItS.Todo leftOf;rw[show (entries.filter fun e=>!(#[]:Array Nat).contains e.born)=entries from Array.filter_eq_self.2 (fun x hx=>by simp)];exact h2
theorem b8Q (hO:S.Ok enc kvs) (h:SX n E I L (.mp m (a2t enc kvs)::H) K):SX n E I L (.any m S.mp::H) K:=by
 intro a w s mm;refine h a w s (mm.step rfl ⟨rfl,Nat.le_refl _⟩ rfl (Nat.le_refl _) (fun _ _ _=>rfl) ⟨S.mp,mm.holds _ (List.mem_cons_self ..),S.es,S.clock,rfl,hO.all,hO.nd,hO.old⟩ (fun g hg=>.inl hg))
theorem c3O {mt kt et:Nat} (hm:∀w,Mem E I H w→w.heap[m]? = some S.mp) (hS:S.seen=#[]) (ht:P.underlying mt=some (.map kt et)) (hx:ev L x=some (.map (some m))) (hd:Nat.blt d n.sz=true)
  (k:∀r,SX n E I ((d,.pointer (some ⟨r,0,none⟩))::L) (.any r (S.it m)::H) K):SX n E I L H (one P ops Q ⟨some d,.range mt x,ty,pos,af,none⟩ K):=
 a8J (fun r:Nat=>.pointer (some ⟨r,0,none⟩)) (fun _=>I) (fun r=>.any r (S.it m)::H) (fun _=>True) hd
  (fun a w st mm=>by
   have hb:w.heap[m]? = some (.map S.es S.clock):=hm w mm
   refine⟨w.heap.size,w.alloc (.mapIter (some m) S.clock #[] S.clock),trivial,?_,mm.new rfl ⟨rfl,Nat.le_refl _⟩ rfl (by simp) (fun k hk=>a5k w _ k hk) (by show (w.alloc _).heap[w.heap.size]? = _;rw[heap_alloc_new];simp[ItS.it,hS]) (fun g hg=>by simp only[Res.foot,Option.some.injEq]at hg;omega)⟩
   simp only[execOp,st.ev hx,Sem.run_bind,run_range_map w mt kt et m S.es S.clock ht hb,Result.andThen_ok,Sem.run_pure]) fun r _=>k r
theorem c1a {mt kt et:Nat} (hS:S.seen=#[]) (ht:P.underlying mt=some (.map kt et)) (hx:ev L x=some (.map (some m))) (hd:Nat.blt d n.sz=true)
  (k:∀r,SX n E I ((d,.pointer (some ⟨r,0,none⟩))::L) (.any r (S.it m) :: .any m S.mp::H) K):SX n E I L (.any m S.mp::H) (one P ops Q ⟨some d,.range mt x,ty,pos,af,none⟩ K):=
 c3O (fun w mm=>mm.holds _ (List.mem_cons_self ..)) hS ht hx hd k
theorem Mem.setBlock {w:World} {o o':Obj} (mm:Mem E I (.any r o::H) w):Mem E I (.any r o'::H) (setBlock w r o'):=by
 have hr:w.heap[r]? = some o:=mm.holds _ (List.mem_cons_self ..)
 have hlt:r<w.heap.size:=(Array.getElem?_eq_some_iff.1 hr).1
 refine mm.step rfl ⟨rfl,Nat.le_refl _⟩ rfl (by simp[ChangeMaps.setBlock]) (fun k hk hne=>?_) (by show (ChangeMaps.setBlock w r o').heap[r]? = _;simp[ChangeMaps.setBlock,hlt]) (fun g hg=>.inl hg)
 have:r≠k:=fun e=>hne (by rw[←e];rfl)
 simp[ChangeMaps.setBlock,Array.getElem?_setIfInBounds_ne this]
theorem c7F (hm:∀w,Mem E I (.any r (S.it m)::H) w→w.heap[m]? = some S.mp) (hO:S.Ok enc kvs) (hT:S.Todo enc todo) (hx:ev L x=some (.pointer (some ⟨r,0,none⟩))) (hd:Nat.blt d n.sz=true)
  (k:∀q S' todo',ItS.Step enc kvs todo S q S' todo'→S'.mp=S.mp→SX n E I ((d,.tuple (c3N enc q))::L) (.any r (S'.it m)::H) K) :
  SX n E I L (.any r (S.it m)::H) (one P ops Q ⟨some d,.next x false,ty,pos,af,none⟩ K):=
 a8J (α:=Option (κ×Value)×ItS×List (κ×Value)) (fun z=>.tuple (c3N enc z.1)) (fun _=>I) (fun z=>.any r (z.2.1.it m)::H) (fun z=>ItS.Step enc kvs todo S z.1 z.2.1 z.2.2∧z.2.1.mp=S.mp) hd
  (fun a w st mm=>by
   have hr:w.heap[r]? = some (.mapIter (some m) S.clock S.seen S.clock):=mm.holds (.any r (S.it m)) (List.mem_cons_self ..)
   have hb:w.heap[m]? = some (.map S.es S.clock):=hm w mm
   rcases run_next_at (P:=P) w ty r m S.clock S.clock S.seen S.es S.clock hr hb hO.old (Nat.le_refl _) with ⟨h0,hrun⟩|⟨e,he,w1,hw1,hrun⟩
   ·refine⟨(none,S,todo),w,⟨.over ?_,rfl⟩,by simp only[execOp,st.ev hx,Sem.run_bind,hrun,Result.andThen_ok,Sem.run_pure];rfl,mm⟩
    have h1:(leftOf S.es S.seen).toList=[]:=List.eq_nil_of_length_eq_zero (by simpa using h0)
    unfold ItS.Todo at hT
    rw[h1]at hT
    cases todo with
    |nil=>rfl
    |cons p t=>simp[a2t]at hT
   ·have hm1:Mem E I (.any r (S.it m)::H) w1:=by rcases hw1 with rfl|rfl;exact mm;exact mm.drew
    obtain⟨l1,l2,hl⟩:=List.append_of_mem he
    have hT':=hT
    unfold ItS.Todo at hT'
    rw[hl,List.map_append,List.map_cons]at hT'
    obtain⟨p,a',b',e1,e2,e3,e4⟩:=c2U hT'.symm.symm rfl
    have hmem:e∈S.es.toList:=by
     have:e∈(S.es.filter fun e=>!S.seen.contains e.born).toList:=he
     simp at this;simpa using this.1
    have hnd:((leftOf S.es S.seen).toList.map (·.born)).Nodup:=by
     have hs:List.Sublist (leftOf S.es S.seen).toList S.es.toList:=by
      unfold leftOf;rw[Array.toList_filter];exact List.filter_sublist
     exact (hs.map _).nodup hO.nd
    have hleft:(leftOf S.es (S.seen.push e.born)).toList=l1++l2:=by
     have h5:(leftOf S.es (S.seen.push e.born)).toList=(leftOf S.es S.seen).toList.filter (fun y=>!(y.born == e.born)):=by
      unfold leftOf;rw[Array.toList_filter,Array.toList_filter,List.filter_filter]
      congr 1
      funext y
      simp only[Array.contains_push]
      cases S.seen.contains y.born<;>cases hq:(y.born == e.born)<;>simp_all
     rw[h5,hl,List.filter_append,List.filter_cons];rw[hl,List.map_append,List.map_cons]at hnd
     have hn:=List.nodup_append.1 hnd
     have hn2:=List.nodup_cons.1 hn.2.1
     simp only[beq_self_eq_true,Bool.not_true,Bool.false_eq_true,if_false]
     congr 1
     ·rw[List.filter_eq_self];intro y hy
      have:y.born≠e.born:=hn.2.2 _ (List.mem_map_of_mem hy) _ (List.mem_cons_self ..)
      simpa using this
     ·rw[List.filter_eq_self];intro y hy
      have:y.born≠e.born:=fun h=>hn2.1 (by rw[←h];exact List.mem_map_of_mem hy)
      simpa using this
    refine⟨(some p,⟨S.es,S.clock,S.seen.push e.born⟩,a'++b'),setBlock w1 r (.mapIter (some m) S.clock (S.seen.push e.born) S.clock),⟨.come p a' b' ⟨S.es,S.clock,S.seen.push e.born⟩ e1 ⟨hO.all,hO.nd,hO.old⟩ ?_ ⟨e,S.seen,rfl,hmem,?_,?_⟩,rfl⟩,?_,?_⟩
    ·show (leftOf S.es (S.seen.push e.born)).toList.map _=_
     rw[hleft,List.map_append,a2t,List.map_append];rw[←e2,←e3];rfl
    ·exact (congrArg Prod.fst e4).symm
    ·exact (congrArg Prod.snd e4).symm
    ·simp only[execOp,st.ev hx,Sem.run_bind,hrun,Result.andThen_ok,Sem.run_pure]
     rw[show e.key=enc p.1 from (congrArg Prod.fst e4).symm,show e.val=p.2 from (congrArg Prod.snd e4).symm];rfl
    ·exact Mem.setBlock hm1)
  fun z hz=>k z.1 z.2.1 z.2.2 hz.1 hz.2
theorem c5y (hO:S.Ok enc kvs) (hT:S.Todo enc todo) (hx:ev L x=some (.pointer (some ⟨r,0,none⟩))) (hd:Nat.blt d n.sz=true)
  (k:∀q S' todo',ItS.Step enc kvs todo S q S' todo'→SX n E I ((d,.tuple (c3N enc q))::L) (.any r (S'.it m) :: .any m S'.mp::H) K) :
  SX n E I L (.any r (S.it m) :: .any m S.mp::H) (one P ops Q ⟨some d,.next x false,ty,pos,af,none⟩ K):=
 c7F (fun w mm=>mm.holds (.any m S.mp) (List.mem_cons_of_mem _ (List.mem_cons_self ..))) hO hT hx hd fun q S' t' hs e=>e▸k q S' t' hs
theorem c1Y {p:κ×Value} (h1:Res.any r (S.it m)∈H) (h2:Res.any m S.mp∈H) (hO:S.Ok enc kvs) (hA:S.At enc p) (hx:ev L x=some (.pointer (some ⟨r,0,none⟩))):OV P n E I L H ⟨some d,.entry x,ty,pos,af,none⟩ (.tuple #[enc p.1,p.2]):=fun a w st mm=>by
 obtain⟨e,seen0,hs,he,hk,hv⟩:=hA
 have hr:w.heap[r]? = some (.mapIter (some m) S.clock (seen0.push e.born) S.clock):=by
  have:=mm.holds _ h1
  rw[←hs];exact this
 have hb:w.heap[m]? = some (.map S.es S.clock):=mm.holds _ h2
 simp only[execOp,st.ev hx,Sem.run_bind,run_entry_at w r m S.clock seen0 S.es S.clock e hr hb he hO.nd,Result.andThen_ok,Sem.run_pure,hk,hv]
def b6H {κ:Type} [DecidableEq κ]:List (κ×Value)→κ→List (κ×Value)
 | [],_=>[]
 |(k',v)::r,k=>if k'=k then r else (k',v)::b6H r k
theorem c0I {kvs:List (κ×Value)} {k:κ}:∀{i},a3q kvs k i=none→b6H kvs k=kvs:=by
 induction kvs with
 |nil=>intro i _;rfl
 |cons p r ih=>
  obtain⟨k',u⟩:=p;intro i h
  simp only[a3q]at h
  split at h
  ·cases h
  ·rename_i hne;simp only[b6H,if_neg hne,ih h]
theorem c0J {kvs:List (κ×Value)} {k:κ}:∀{i j u},a3q kvs k i=some (j,u)→i≤j∧j-i<kvs.length∧b6H kvs k=kvs.eraseIdx (j-i):=by
 induction kvs with
 |nil=>intro i j u h;cases h
 |cons p r ih=>
  obtain⟨k',u'⟩:=p;intro i j u h
  simp only[a3q]at h
  split at h
  ·rename_i he
   simp only[Option.some.injEq,Prod.mk.injEq]at h
   obtain⟨rfl,rfl⟩:=h;exact⟨Nat.le_refl _,by simp,by simp[b6H,he]⟩
  ·rename_i hne
   obtain⟨h1,h2,h3⟩:=ih h;refine⟨by omega,by simp only[List.length_cons];omega,?_⟩;rw[show j-i=(j-(i+1))+1 from by omega,List.eraseIdx_cons_succ,b6H,if_neg hne,h3]
theorem a9K:∀{kvs:List (κ×Value)} {k:κ},(kvs.map Prod.fst).Nodup→b6H kvs k=kvs.filter (fun p=>!decide (p.1=k))
 | [],k,_=>rfl
 |(k',v)::r,k,h=>by
  rw[List.map_cons,List.nodup_cons]at h
  simp only[b6H,List.filter_cons]
  split
  ·rename_i he
   subst he
   simp only[decide_true,Bool.not_true,Bool.false_eq_true,if_false]
   refine (List.filter_eq_self.2 fun p hp=>?_).symm
   have:p.1≠k':=fun e=>by
    have h9:p.1∈r.map Prod.fst:=List.mem_map_of_mem (f:=Prod.fst) hp
    rw[e]at h9
    exact h.1 h9
   simpa using this
  ·rename_i hne
   simp only[hne,decide_false,Bool.not_false,if_true]
   rw[a9K h.2]
theorem b6T {mt kt et:Nat} {ats:List TypeId} (hK:KeyOK P kt enc) (ht:P.underlying mt=some (.map kt et)) (key:κ) (hx:ev L x=some (.map (some m))) (hy:ev L y=some (enc key))
  (k:SX n E I L (.mp m (a2t enc (b6H kvs key))::H) K):SX n E I L (.mp m (a2t enc kvs)::H) (one P ops Q ⟨none,.call { callee:=.builtin .delete,args:=#[x,y],argTypes:=(mt::ats).toArray },ty,pos,af,none⟩ K):=by
 intro a w st mm;unfold one;rw[if_pos (by rfl)];obtain⟨entries,clock,h1,h2,h3,h4⟩:=mm.mp (List.mem_cons_self ..)
 have hlt:m<w.heap.size:=(Array.getElem?_eq_some_iff.1 h1).1
 have hf:=hK.find w key entries.toList kvs h2
 have hset:∀o:Obj,(setObj m o).run P w = .ok () { w with heap:=w.heap.setIfInBounds m o }:=fun o=>by simp[setObj,Sem.run,h1]
 have hnew:∀o:Obj,({ w with heap:=w.heap.setIfInBounds m o }:World).heap[m]? = some o:=fun o=>by simp[hlt]
 have hstep:∀(o:Obj),c2r o (a2t enc (b6H kvs key))→Mem E I (.mp m (a2t enc (b6H kvs key))::H) { w with heap:=w.heap.setIfInBounds m o }:=fun o ho=>
  mm.step rfl ⟨rfl,Nat.le_refl _⟩ rfl (by simp) (fun k hk hne=>by
   have:m≠k:=fun e=>hne (by rw[←e];rfl)
   simp[Array.getElem?_setIfInBounds_ne this]) ⟨o,hnew o,ho⟩ (fun g hg=>.inl hg)
 have key0:∃o,c2r o (a2t enc (b6H kvs key))∧(execOp a.eval ⟨none,.call { callee:=.builtin .delete,args:=#[x,y],argTypes:=(mt::ats).toArray },ty,pos,af,none⟩).run P w = .ok (.value (.tuple #[])) { w with heap:=w.heap.setIfInBounds m o }:=by
  cases hm:a3q kvs key 0 with
  |none=>
   refine⟨.map entries clock,⟨_,_,rfl,by rw[c0I hm];exact h2,h3,h4⟩,?_⟩
   simp[execOp,resolve,invoke,builtin,st.ev hx,st.ev hy,Builtin.delete_,run_underlying ht,a5u h1,hK.check,hf,hm,hset]
  |some q=>
   obtain⟨j,u⟩:=q;obtain⟨_,hj,hp⟩:=c0J hm
   simp only[Nat.sub_zero]at hj hp
   have hsub:List.Sublist (entries.eraseIdxIfInBounds j).toList entries.toList:=by
    rw[Array.toList_eraseIdxIfInBounds];exact List.eraseIdx_sublist _ _
   refine⟨.map (entries.eraseIdxIfInBounds j) clock,⟨_,_,rfl,?_,(hsub.map _).nodup h3,fun e he=>h4 e (hsub.subset he)⟩,?_⟩
   ·have hem:∀{α β:Type} (l:List α) (f:α→β) (i:Nat),(l.eraseIdx i).map f=(l.map f).eraseIdx i:=fun l f i=>by
     rw[List.eraseIdx_eq_take_drop_succ,List.eraseIdx_eq_take_drop_succ];simp
    rw[Array.toList_eraseIdxIfInBounds,hem,h2,hp,a2t,a2t,hem]
   ·simp[execOp,resolve,invoke,builtin,st.ev hx,st.ev hy,Builtin.delete_,run_underlying ht,a5u h1,hK.check,hf,hm,hset]
 obtain⟨o,ho,hr⟩:=key0;rw[a9j hr];exact k _ _ st (hstep o ho)
end
theorem ItS.Step.some {κ:Type} {enc:κ→Value} {kvs todo t':List (κ×Value)} {S S':ItS} {q:Option (κ×Value)} (h:ItS.Step enc kvs todo S q S' t') (hq:q.isSome=true) :
  ∃p a b,todo=a++p::b∧S'.Ok enc kvs∧S'.Todo enc (a++b)∧S'.At enc p∧q = .some p∧t'=a++b:=by
 cases h with
 |over h=>cases hq
 |come p a b S1 h h1 h2 h3=>exact⟨p,a,b,h,h1,h2,h3,rfl,rfl⟩
theorem ItS.Step.none {κ:Type} {enc:κ→Value} {kvs todo t':List (κ×Value)} {S S':ItS} {q:Option (κ×Value)} (h:ItS.Step enc kvs todo S q S' t') (hq:q.isSome=false):todo=[]∧q = .none∧S'=S:=by
 cases h with
 |over h=>exact⟨h,rfl,rfl⟩
 |come p a b S1 h h1 h2 h3=>cases hq
theorem a7y {α:Type} {done todo a b kvs:List α} {p:α} (hP:(done++todo).Perm kvs) (h:todo=a++p::b):(done++[p]++(a++b)).Perm kvs:=by
 subst h;refine List.Perm.trans ?_ hP;rw[List.append_assoc];refine List.Perm.append_left _ ?_;exact (List.perm_middle (a:=p) (l₁:=a) (l₂:=b)).symm
theorem c3V {α:Type} {done todo a b kvs:List α} {p:α} (hP:(done++todo).Perm kvs) (h:todo=a++p::b):p∈kvs:=hP.mem_iff.1 (by rw[h];simp)
end Go.Sx
set_option linter.all false
namespace Go.Sx
open Go
abbrev NU:=ByteArray×ByteArray
def a3y (R:List NU):List (ByteArray×Value):=R.map fun p=>(p.1,Value.string p.2)
theorem b3c (R:List NU):(a3y R).map Prod.fst=R.map Prod.fst:=by simp[a3y]
theorem b6L:∀{kvs:List (ByteArray×Value)} {k:ByteArray} {v:Value},k∉kvs.map Prod.fst→a5N kvs k v=kvs++[(k,v)]
 | [],_,_,_=>rfl
 |(k',u)::r,k,v,h=>by
  simp only[List.map_cons,List.mem_cons,not_or]at h
  have hne:¬k'=k:=fun e=>h.1 (e▸rfl)
  simp only[a5N,if_neg hne,b6L h.2,List.cons_append]
theorem b9P {R:List NU} {k u:ByteArray} (h:k∉R.map Prod.fst):a5N (a3y R) k (.string u)=a3y (R++[(k,u)]):=by
 rw[b6L (by rw[b3c];exact h)];simp[a3y]
theorem b3b {R:List NU} {k:ByteArray} (h:(R.map Prod.fst).Nodup):b6H (a3y R) k=a3y (R.filter fun p=>!decide (p.1=k)):=by
 rw[a9K (by rw[b3c];exact h)];unfold a3y;rw[List.filter_map];rfl
theorem b6K:∀{kvs:List (ByteArray×Value)} {k:ByteArray} {v:Value},(kvs.map Prod.fst).Nodup→(k,v)∈kvs→a4W kvs k=some v
 |(k',u)::r,k,v,hn,h=>by
  rw[List.map_cons,List.nodup_cons]at hn
  simp only[a4W]
  rcases List.mem_cons.1 h with h|h
  ·cases h;simp
  ·have:k'≠k:=fun e=>by
    have h9:k∈r.map Prod.fst:=List.mem_map_of_mem (f:=Prod.fst) h
    rw[←e]at h9
    exact hn.1 h9
   rw[if_neg this];exact b6K hn.2 h
theorem b6J:∀{kvs:List (ByteArray×Value)} {k:ByteArray} {v:Value},a4W kvs k=some v→k∈kvs.map Prod.fst
 |(k',u)::r,k,v,h=>by
  simp only[a4W]at h
  split at h
  ·rename_i e;simp[e]
  ·simp[b6J h]
theorem Ix.mem {kvs:List (ByteArray×Value)} {l:List Part} {k:ByteArray} {v:Value} (h:Ix kvs l) (hn:(kvs.map Prod.fst).Nodup) (hp:(k,v)∈kvs):∃(i:Nat) (hi:i<l.length),v=ci (i:Nat)∧a0O l k=some l[i]:=by
 have h1:=b6K hn hp
 rw[h k]at h1
 cases hf:l.findIdx? (fun p=>decide (p.name=k)) with
 |none=>rw[hf]at h1;cases h1
 |some i=>
  rw[hf]at h1
  simp only[Option.map_some,Option.some.injEq]at h1
  rw[List.findIdx?_eq_some_iff_getElem]at hf
  obtain⟨hi,hq,hb⟩:=hf;refine⟨i,hi,h1.symm,?_⟩;rw[a0O,List.find?_eq_some_iff_getElem];exact⟨hq,i,hi,rfl,fun j hj=>by simpa using hb j hj⟩
theorem Ix.has {kvs:List (ByteArray×Value)} {l:List Part} {k:ByteArray} (h:Ix kvs l) (hs:(a0O l k).isSome=true):k∈kvs.map Prod.fst:=by
 have h1:=h k
 cases hf:l.findIdx? (fun p=>decide (p.name=k)) with
 |none=>
  exfalso
  rw[List.findIdx?_eq_none_iff]at hf
  obtain⟨p,hp⟩:=Option.isSome_iff_exists.1 hs
  have h2:=List.mem_of_find?_eq_some hp
  have h3:=List.find?_some hp
  rw[hf p h2]at h3;cases h3
 |some i=>rw[hf]at h1;exact b6J h1
theorem b2F {l:List Part} {n:ByteArray} (h:upP l n≠a1g):(a0O l n).isSome=true:=by
 unfold upP at h
 cases hf:a0O l n with
 |none=>rw[hf]at h;exact absurd rfl h
 |some p=>rfl
def a4q (l:List Part) (ks:List ByteArray):List NU:=(ks.filter fun n=>!decide (upP l n=a1g)).map fun n=>(n,upP l n)
section
variable {l:List Part} {v:ByteArray} {R:List NU} {lst out more:List ByteArray} {kvs todo done:List (ByteArray×Value)}
theorem c3h {ks:List ByteArray} {n:ByteArray} (h:upP l n≠a1g):a4q l (ks++[n])=a4q l ks++[(n,upP l n)]:=by simp[a4q,h]
theorem c6P {ks:List ByteArray} {n:ByteArray} (h:upP l n=a1g):a4q l (ks++[n])=a4q l ks:=by simp[a4q,h]
theorem b1W (ks:List ByteArray):(a4q l ks).map Prod.fst=ks.filter fun n=>!decide (upP l n=a1g):=by unfold a4q;rw[List.map_map];exact List.map_id _
theorem c3f {ks:List ByteArray} {n u:ByteArray}:(n,u)∈a4q l ks↔n∈ks∧upP l n=u∧u≠a1g:=by
 unfold a4q;rw[List.mem_map]
 constructor
 ·rintro⟨m,hm,e⟩
  cases e
  have:=List.mem_filter.1 hm
  exact⟨this.1,rfl,by simpa using this.2⟩
 ·rintro⟨h1,rfl,h2⟩;exact⟨n,List.mem_filter.2 ⟨h1,by simpa using h2⟩,rfl⟩
def b8f (l:List Part):Nat:=(l.filter fun p=>!decide (p.into=a1g)).length
theorem c3e {ks:List ByteArray} (hn:ks.Nodup):(a4q l ks).length≤b8f l:=by
 unfold a4q b8f;rw[List.length_map,show (l.filter fun p=>!decide (p.into=a1g)).length=((l.filter fun p=>!decide (p.into=a1g)).map Part.name).length from (List.length_map _).symm];refine List.Nodup.length_le_of_subset (List.filter_sublist.nodup hn) fun n hm=>?_
 have h1:=(List.mem_filter.1 hm).2
 have h2:upP l n≠a1g:=by simpa using h1
 obtain⟨p,hp⟩:=Option.isSome_iff_exists.1 (b2F h2)
 have hpn:p.name=n:=by simpa using List.find?_some hp
 refine List.mem_map.2 ⟨p,List.mem_filter.2 ⟨List.mem_of_find?_eq_some hp,?_⟩,hpn⟩;unfold upP at h2
 rw[hp]at h2
 simpa using h2
structure Bfs (l:List Part) (v:ByteArray) (R:List NU) (lst out:List ByteArray):Prop where
 kn:(R.map Prod.fst).Nodup
 rest:∀n u,(n,u)∈R↔(upP l n=u∧u≠a1g)∧n≠v∧n∉out
 ins:∀n∈out,b1D l v n
 lst':∀x∈lst,x=v∨x∈out
 proc:∀x,(x=v∨x∈out)→x∉lst→∀n,(n,x)∉R
 len:out.length+R.length≤b8f l
theorem Bfs.start (hx:Ix kvs l) (hn:(kvs.map Prod.fst).Nodup) (hd:done.Perm kvs):Bfs l v ((a4q l (done.map Prod.fst)).filter fun p=>!decide (p.1=v)) [v] []:=by
 have hdn:(done.map Prod.fst).Nodup:=((hd.map _).nodup_iff).2 hn
 have hR:∀n u,(n,u)∈(a4q l (done.map Prod.fst)).filter (fun p=>!decide (p.1=v))↔(upP l n=u∧u≠a1g)∧n≠v:=fun n u=>by
  rw[List.mem_filter,c3f]
  constructor
  ·rintro⟨⟨_,h2⟩,h3⟩;exact⟨h2,by simpa using h3⟩
  ·rintro⟨⟨rfl,h2⟩,h3⟩;refine⟨⟨?_,rfl,h2⟩,by simpa using h3⟩;exact (hd.map Prod.fst).mem_iff.2 (hx.has (b2F h2))
 refine⟨?_,fun n u=>by rw[hR];simp,fun n h=>(by cases h),fun x h=>.inl (List.mem_singleton.1 h),fun x h hx=>?_,?_⟩
 ·have h1:((a4q l (done.map Prod.fst)).map Prod.fst).Nodup:=by rw[b1W];exact List.filter_sublist.nodup hdn
  exact (List.filter_sublist.map _).nodup h1
 ·rcases h with h|h
  ·exact absurd (List.mem_singleton.2 h) hx
  ·cases h
 ·have:=c3e (l:=l) hdn
  have h2:=List.length_filter_le (fun p:NU=>!decide (p.1=v)) (a4q l (done.map Prod.fst))
  simp only[List.length_nil];omega
def a2S (lst:List ByteArray) (done:List NU):List ByteArray:=(done.filter fun p=>decide (p.2∈lst)).map Prod.fst
theorem b3B {done:List NU} {p:NU} (h:p.2∈lst):a2S lst (done++[p])=a2S lst done++[p.1]:=by simp[a2S,h]
theorem b6O {done:List NU} {p:NU} (h:¬p.2∈lst):a2S lst (done++[p])=a2S lst done:=by simp[a2S,h]
theorem c0U (done:List NU):(a2S lst done).length≤done.length:=by unfold a2S;rw[List.length_map];exact List.length_filter_le _ _
theorem a9O {done:List NU} (hd:done.Perm R) {n:ByteArray}:n∈a2S lst done↔∃u,(n,u)∈R∧u∈lst:=by
 unfold a2S;rw[List.mem_map]
 constructor
 ·rintro⟨⟨m,u⟩,hp,rfl⟩
  have:=List.mem_filter.1 hp
  exact⟨u,hd.mem_iff.1 this.1,by simpa using this.2⟩
 ·rintro⟨u,h1,h2⟩;exact⟨(n,u),List.mem_filter.2 ⟨hd.mem_iff.2 h1,by simpa using h2⟩,rfl⟩
def a7A (R:List NU) (more:List ByteArray):List NU:=R.filter fun p=>!decide (p.1∈more)
theorem c1r:a7A R []=R:=by unfold a7A;rw[List.filter_eq_self];intro p _;simp
theorem b7l (h:(R.map Prod.fst).Nodup) (more:List ByteArray):((a7A R more).map Prod.fst).Nodup:=(List.filter_sublist.map _).nodup h
theorem b8L {i:Nat} (hi:i<more.length) (h:(R.map Prod.fst).Nodup):b6H (a3y (a7A R (more.take i))) more[i]=a3y (a7A R (more.take (i+1))):=by
 rw[b3b (b7l h _)];unfold a7A;rw[List.filter_filter]
 congr 2
 funext p
 rw[←a0q hi]
 simp only[List.mem_append,List.mem_singleton]
 by_cases h1:p.1=more[i]<;>by_cases h2:p.1∈more.take i<;>simp[h1,h2]
theorem d1I {n u u':ByteArray} (h:(R.map Prod.fst).Nodup) (h1:(n,u)∈R) (h2:(n,u')∈R):u=u':=by
 induction R with
 |nil=>cases h1
 |cons p R ih=>
  rw[List.map_cons,List.nodup_cons]at h
  rcases List.mem_cons.1 h1 with h1|h1
  ·rcases List.mem_cons.1 h2 with h2|h2
   ·rw[←h1]at h2;exact (Prod.mk.inj h2).2.symm
   ·exact absurd (List.mem_map_of_mem (f:=Prod.fst) h2) (by rw[←h1]at h;exact h.1)
  ·rcases List.mem_cons.1 h2 with h2|h2
   ·exact absurd (List.mem_map_of_mem (f:=Prod.fst) h1) (by rw[←h2]at h;exact h.1)
   ·exact ih h.2 h1 h2
theorem b6P {done:List NU} (hk:(R.map Prod.fst).Nodup) (hd:done.Perm R):(a2S lst done).length+(a7A R (a2S lst done)).length=R.length:=by
 have h1:(a2S lst done).length=R.countP (fun p=>decide (p.2∈lst)):=by
  unfold a2S;rw[List.length_map,←List.countP_eq_length_filter];exact hd.countP_eq _
 have h2:a7A R (a2S lst done)=R.filter (fun p=>decide ¬(decide (p.2∈lst)=true)):=by
  unfold a7A;refine List.filter_congr fun p hp=>?_
  rw[Bool.eq_iff_iff]
  simp only[Bool.not_eq_true',decide_eq_false_iff_not,decide_eq_true_eq]
  refine not_congr ?_;rw[a9O hd];exact⟨fun ⟨u,h3,h4⟩=>by rw[d1I hk hp h3];exact h4,fun h=>⟨p.2,hp,h⟩⟩
 rw[h1,h2,←List.countP_eq_length_filter];exact (List.length_eq_countP_add_countP (fun p:NU=>decide (p.2∈lst))).symm
theorem Bfs.step {done:List NU} (hv:(a0O l v).isSome=true) (h:Bfs l v R lst out) (hd:done.Perm R):Bfs l v (a7A R (a2S lst done)) (a2S lst done) (out++a2S lst done):=by
 have hsub:∀{p:NU},p∈a7A R (a2S lst done)↔p∈R∧p.1∉a2S lst done:=fun {p}=>by unfold a7A;rw[List.mem_filter];simp
 refine⟨b7l h.kn _,fun n u=>?_,fun n hn=>?_,fun x hx=>.inr (List.mem_append.2 (.inr hx)),fun x hx hnx n hm=>?_,?_⟩
 ·rw[hsub,h.rest,List.mem_append,not_or]
  simp only[and_assoc]
 ·rcases List.mem_append.1 hn with hn|hn
  ·exact h.ins n hn
  ·obtain⟨u,h1,h2⟩:=(a9O hd).1 hn;obtain⟨⟨h3,h4⟩,h5,h6⟩:=(h.rest n u).1 h1
   have hup:upP l n≠a1g:=by rw[h3];exact h4
   refine⟨⟨hv,b2F hup,h5⟩,?_⟩
   rcases h.lst' u h2 with rfl|hu
   ·exact⟨1,by unfold a5t;rw[h3];simp[h4]⟩
   ·obtain⟨_,k,hk⟩:=h.ins u hu;exact⟨k+1,by unfold a5t;rw[h3];simp[h4,hk]⟩
 ·obtain⟨hm1,hm2⟩:=hsub.1 hm
  have hx':x=v∨x∈out:=by
   rcases hx with hx|hx
   ·exact .inl hx
   ·rcases List.mem_append.1 hx with hx|hx
    ·exact .inr hx
    ·exact absurd hx hnx
  by_cases hl:x∈lst
  ·exact hm2 ((a9O hd).2 ⟨x,hm1,hl⟩)
  ·exact h.proc x hx' hl n hm1
 ·have h1:=h.len
  have h2:=b6P (lst:=lst) h.kn hd
  rw[List.length_append];omega
theorem Bfs.over (h:Bfs l v R [] out) {n:ByteArray}:n∈out↔b1D l v n:=by
 refine⟨h.ins n,fun ⟨⟨_,hf,hnv⟩,k,hk⟩=>?_⟩
 have key:∀(k:Nat) (n:ByteArray),n≠v→a5t l v k n=true→n∈out:=by
  intro k
  induction k with
  |zero=>intro n _ h;cases h
  |succ k ih=>
   intro n hn hr
   simp only[a5t,Bool.and_eq_true,Bool.not_eq_true',decide_eq_false_iff_not,Bool.or_eq_true,decide_eq_true_eq]at hr
   obtain⟨h1,h2⟩:=hr;refine Classical.byContradiction fun hc=>?_
   have hR:=(h.rest n (upP l n)).2 ⟨⟨rfl,h1⟩,hn,hc⟩
   by_cases hv:upP l n=v
   ·exact h.proc _ (.inl hv) (by simp) n hR
   ·exact h.proc _ (.inr (ih _ hv (h2.resolve_left hv))) (by simp) n hR
 exact key k n hnv hk
theorem c7A (h:a0O l v=none) (n:ByteArray):¬b1D l v n:=fun ⟨⟨h1,_⟩,_⟩=>by rw[h]at h1;cases h1
end
end Go.Sx
set_option linter.all false
namespace Go.Sx
open Go
section
variable {c:List Kind} {f:Fm} {st:List Part} {l L:List Evt} {p q:Part} {e:Evt} {d:Ivl} {day:Int} {i:Nat} {k:Int}
def b0K (st:List Part):Nat:=st.length+b8f st
theorem b0M (st:List Part):b8f st=st.countP fun p=>!decide (p.into=a1g):=by unfold b8f;rw[List.countP_eq_length_filter]
theorem b6n (st:List Part) (i:Nat) (p:Part):b8f (st.set i p)≤b8f st+1:=by
 rw[b0M,b0M]
 rcases Nat.lt_or_ge i st.length with h|h
 ·rw[List.set_eq_take_append_cons_drop,if_pos h]
  have h2:st.countP (fun p=>!decide (p.into=a1g))=(st.take i).countP (fun p=>!decide (p.into=a1g))+(st.drop i).countP (fun p=>!decide (p.into=a1g)):=by rw[←List.countP_append,List.take_append_drop]
  have h3:(st.drop (i+1)).countP (fun p=>!decide (p.into=a1g))≤(st.drop i).countP (fun p=>!decide (p.into=a1g)):=by
   rw[List.drop_eq_getElem_cons h,List.countP_cons];omega
  rw[List.countP_append,List.countP_cons]
  split<;>omega
 ·rw[List.set_eq_of_length_le h];omega
theorem c6z (hi:Inc Part.name st) (h:(a0O st q.name).isSome=true):b0K (a4i Part.name st q)≤b0K st+1:=by
 have ha:atF Part.name st q.name=true:=by rw[a9p hi];exact h
 unfold b0K a4i;rw[if_pos ha,List.length_set]
 have:=b6n st (a5L Part.name st q.name) q
 omega
theorem c6y (hq:q.into=a1g):b0K (a4i Part.name st q)≤b0K st+1:=by
 unfold a4i
 split
 ·unfold b0K;rw[List.length_set]
  have:=b6n st (a5L Part.name st q.name) q
  omega
 ·unfold b0K;rw[b0M,b0M,List.countP_append,List.countP_cons,List.length_append,List.length_cons]
  have h2:st.countP (fun p=>!decide (p.into=a1g))=(st.take (a5L Part.name st q.name)).countP (fun p=>!decide (p.into=a1g))+(st.drop (a5L Part.name st q.name)).countP (fun p=>!decide (p.into=a1g)):=by rw[←List.countP_append,List.take_append_drop]
  have h3:(st.take (a5L Part.name st q.name)).length+(st.drop (a5L Part.name st q.name)).length=st.length:=by rw[←List.length_append,List.take_append_drop]
  simp only[hq,decide_true,Bool.not_true,Bool.false_eq_true,if_false]
  omega
theorem b9F (h:(a0p c st e).2=0):b0K (a0p c st e).1≤b0K st+1:=by
 have hi:=(b2O h).1
 have hf:∀n,b0K (a5C n).1≤b0K st+1:=fun n=>by show b0K []≤_;unfold b0K b8f;simp
 unfold a0p at h ⊢
 split
 ·exact hf _
 ·split
  ·unfold a2P
   split
   ·exact hf _
   split
   ·exact hf _
   split
   ·exact hf _
   ·exact c6y rfl
  ·unfold a0G
   split
   ·exact hf _
   rename_i h2
   split
   ·exact hf _
   have hs:(a0O st e.part).isSome=true:=(a9r h2).1
   obtain⟨p0,hp0⟩:=Option.isSome_iff_exists.1 hs
   have hP:a1I st e=p0:=by unfold a1I;rw[hp0];rfl
   have hn:p0.name=e.part:=by simpa using List.find?_some hp0
   have hput:∀q:Part,q.name=p0.name→b0K (b2r st q).1≤b0K st+1:=fun q hq=>c6z hi (by rw[hq,hn];exact hs)
   rw[hP];unfold a1C a1B a0K a1y a1f a0T
   repeat' split
   all_goals first
    |exact hf _
    |exact hput _ rfl
theorem c6A:b0K (useL st e d)=b0K st:=by
 unfold b0K useL;rw[b0M,b0M,List.length_map,List.countP_map]
 congr 1
 refine List.countP_congr fun p _=>?_
 simp only[Function.comp]
 split<;>rfl
theorem d0I (h:SmF st):SmF (useL st e d):=fun p hp=>by
 unfold useL at hp
 obtain⟨q,hq,rfl⟩:=List.mem_map.1 hp
 have:=h q hq
 split<;>exact this
theorem b7o (h:(!a0Y c || !a1G f)=true):runL f c l day=([],-1,1):=if_pos h
theorem c8e (h:(!a0Y c || !a1G f)=false):runL f c l day=runLGo f c [] 0 ((a1m (l.filter fun e=>!decide (e.day>day))).drop 0):=by
 unfold runL;rw[if_neg (by rw[h];decide)];rfl
theorem c3s (hi:i<L.length) (h:¬(a0p c st L[i]).2=0):runLGo f c st k (L.drop i)=([],k,(a0p c st L[i]).2):=by
 rw[List.drop_eq_getElem_cons hi,runLGo,if_neg (by rw[a3I];exact h),a3I]
theorem c0l (hi:i<L.length) (h:(a0p c st L[i]).2=0) (h4:¬L[i].op=4):runLGo f c st k (L.drop i)=runLGo f c (a0p c st L[i]).1 (k+1) (L.drop (i+1)):=by
 rw[List.drop_eq_getElem_cons hi,runLGo,if_pos (by rw[a3I];exact h)];unfold applyL;rw[if_neg (fun hc=>h4 hc.2)]
theorem c7a (hi:i<L.length) (h:(a0p c st L[i]).2=0) (h4:L[i].op=4):runLGo f c st k (L.drop i)=runLGo f c (useL (a0p c st L[i]).1 L[i] (b0p f L[i].use)) (k+1) (L.drop (i+1)):=by
 rw[List.drop_eq_getElem_cons hi,runLGo,if_pos (by rw[a3I];exact h)];unfold applyL;rw[if_pos ⟨h,h4⟩]
theorem c6Z (hi:¬i<L.length):runLGo f c st k (L.drop i)=(st,-1,0):=by rw[List.drop_eq_nil_of_le (by omega)];rfl
noncomputable def useUp (st:List Part) (e:Evt) (d:Ivl) (i:Nat):List Part:=(useL st e d).take i++st.drop i
theorem use_len:(useL st e d).length=st.length:=by unfold useL;exact List.length_map ..
theorem b4l (i:Nat):(useUp st e d i).length=st.length:=by
 unfold useUp;rw[List.length_append,List.length_take,List.length_drop,use_len];omega
theorem b8T:useUp st e d 0=st:=by simp[useUp]
theorem c1T:useUp st e d st.length=useL st e d:=by
 unfold useUp;rw[List.drop_length,List.append_nil,←use_len (e:=e) (d:=d),List.take_length]
theorem b7D {i:Nat} (hi:i<st.length):(useUp st e d i)[i]? = some st[i]:=by
 unfold useUp;rw[List.getElem?_append_right (by rw[List.length_take,use_len];omega),List.length_take,use_len,Nat.min_eq_left (by omega),Nat.sub_self,List.getElem?_drop,Nat.add_zero];exact List.getElem?_eq_getElem hi
theorem b1x {i:Nat} (hi:i<st.length):useUp st e d (i+1)=(useUp st e d i).set i ((useL st e d)[i]'(by rw[use_len];exact hi)):=by
 unfold useUp
 have hl:((useL st e d).take i).length=i:=by rw[List.length_take,use_len];omega
 rw[List.set_append_right _ _ (by omega),hl,Nat.sub_self,List.drop_eq_getElem_cons hi,List.set_cons_zero,←a0q (by rw[use_len];exact hi),List.append_assoc]
 rfl
theorem c4S {i:Nat} (hi:i<st.length) {ns:List ByteArray} (hn:∀n,n∈ns↔b1D st e.part n) (h:st[i].name∈ns++[e.part]):(useL st e d)[i]'(by rw[use_len];exact hi)=a9k d e.use st[i]:=by
 simp only[useL,List.getElem_map]
 rw[if_pos]
 rcases List.mem_append.1 h with h|h
 ·exact .inr ((hn _).1 h)
 ·exact .inl (List.mem_singleton.1 h)
theorem c8z {i:Nat} (hi:i<st.length) {ns:List ByteArray} (hn:∀n,n∈ns↔b1D st e.part n) (h:¬st[i].name∈ns++[e.part]):(useL st e d)[i]'(by rw[use_len];exact hi)=st[i]:=by
 simp only[useL,List.getElem_map]
 rw[if_neg];rintro (h1|h1)
 ·exact h (List.mem_append.2 (.inr (List.mem_singleton.2 h1)))
 ·exact h (List.mem_append.2 (.inl ((hn _).2 h1)))
theorem c4Q {i:Nat} (hi:i<st.length) {ns:List ByteArray} (hn:∀n,n∈ns↔b1D st e.part n) (h:¬st[i].name∈ns++[e.part]):useUp st e d (i+1)=useUp st e d i:=by
 rw[b1x hi,c8z hi hn h]
 have h1:=b7D (e:=e) (d:=d) hi
 have hl:i<(useUp st e d i).length:=by rw[b4l];exact hi
 rw[List.getElem?_eq_getElem hl]at h1
 rw[←Option.some.inj h1];exact List.set_getElem_self hl
theorem c8f (h:(a0p c st e).2=0) (h4:e.op=4):0<st.length:=by
 have h0:=h
 unfold a0p at h
 split at h
 ·cases h
 ·rw[if_neg (by omega)]at h
  unfold a0G at h
  split at h
  ·cases h
  ·rename_i h2
   exact List.length_pos_of_mem (a9V (a9r h2).1)
end
theorem b9O {todo:List NU} {a b:List (ByteArray×Value)} {p:ByteArray×Value} (h:a3y todo=a++p::b):∃n u a' b',todo=a'++(n,u)::b'∧a3y a'=a∧a3y b'=b∧p=(n,.string u):=by
 unfold a3y at h
 obtain⟨a',c',rfl,h2,h3⟩:=List.map_eq_append_iff.1 h;obtain⟨⟨n,u⟩,b',rfl,h4,h5⟩:=List.map_eq_cons_iff.1 h3;exact⟨n,u,a',b',rfl,h2,h5,h4.symm⟩
theorem ItS.Step.nu {R todo:List NU} {t':List (ByteArray×Value)} {S S':ItS} {q:Option (ByteArray×Value)} (h:ItS.Step Value.string (a3y R) (a3y todo) S q S' t') (hq:q.isSome=true) :
  ∃(n u:ByteArray) (a b:List NU),todo=a++(n,u)::b∧S'.Ok Value.string (a3y R)∧S'.Todo Value.string (a3y (a++b))∧S'.At Value.string (n,.string u)∧q = .some (n,.string u):=by
 obtain⟨p,a,b,h1,h2,h3,h4,h5,_⟩:=h.some hq;obtain⟨n,u,a',b',e1,e2,e3,e4⟩:=b9O h1;subst e4;exact⟨n,u,a',b',e1,h2,by rw[show a3y (a'++b')=a3y a'++a3y b' from List.map_append,e2,e3];exact h3,h4,h5⟩
theorem ItS.Step.nuNone {R todo:List NU} {t':List (ByteArray×Value)} {S S':ItS} {q:Option (ByteArray×Value)} (h:ItS.Step Value.string (a3y R) (a3y todo) S q S' t') (hq:q.isSome=false):todo=[]∧q = .none∧S'=S:=by
 obtain⟨h1,h2,h3⟩:=h.none hq;exact⟨by cases todo with|nil=>rfl|cons p t=>simp[a3y]at h1,h2,h3⟩
theorem c3W {done todo a b kvs:List (ByteArray×Value)} {p:ByteArray×Value} (hP:(done++todo).Perm kvs) (h:todo=a++p::b) (hn:(kvs.map Prod.fst).Nodup):p.1∉done.map Prod.fst:=fun hm=>by
 have h1:=((hP.map Prod.fst).nodup_iff).2 hn
 rw[List.map_append]at h1
 refine (List.nodup_append.1 h1).2.2 _ hm p.1 (List.mem_map_of_mem (by rw[h];simp)) rfl
theorem c3g {l:List Part} {ks:List ByteArray} {n:ByteArray} (h:n∉ks):n∉(a4q l ks).map Prod.fst:=fun hm=>by
 rw[b1W]at hm;exact h (List.mem_filter.1 hm).1
theorem b9Z {l:List Part} {done:List (ByteArray×Value)} {p:ByteArray×Value} (h:upP l p.1≠a1g):a4q l ((done++[p]).map Prod.fst)=a4q l (done.map Prod.fst)++[(p.1,upP l p.1)]:=by
 rw[List.map_append];exact c3h h
theorem b9Y {l:List Part} {done:List (ByteArray×Value)} {p:ByteArray×Value} (h:upP l p.1=a1g):a4q l ((done++[p]).map Prod.fst)=a4q l (done.map Prod.fst):=by
 rw[List.map_append];exact c6P h
theorem c6O {l:List Part} {done kvs:List (ByteArray×Value)} (hn:(kvs.map Prod.fst).Nodup) (hd:done.Perm kvs):((a4q l (done.map Prod.fst)).map Prod.fst).Nodup:=by
 rw[b1W];exact List.filter_sublist.nodup (((hd.map _).nodup_iff).2 hn)
theorem c3p {I:IMap} {ys:List Value} {m:List ByteArray} (h:Flat I ys m):ys=(a2G m).flatten:=by
 obtain⟨xss,rfl,hC⟩:=FlatC.of h;obtain rfl:=c1E hC
 rfl
theorem a0k {xss:List (List Value)} {i:Nat} {c c':List Value} (h:xss[i]? = some c):(xss.set i c')[i]? = some c':=by
 have hi:i<xss.length:=(List.getElem?_eq_some_iff.1 h).1
 rw[List.getElem?_set_self hi]
theorem c2N {I:IMap} {xss:List (List Value)} {l:List Part} {k:Nat} {p:Part} (hx:FlatC I xss l) (hk:l[k]? = some p) (rest:List (List Value)):∃q,(xss++rest)[k]? = some (p.cells q)∧RdS I q p.props:=by
 have hkl:k<l.length:=(List.getElem?_eq_some_iff.1 hk).1
 obtain⟨c,h1,h2⟩:=hx.at_ hkl;rw[List.getElem?_eq_getElem hkl]at hk
 rw[Option.some.inj hk]at h2
 obtain⟨q,rfl,hq⟩:=h2;exact⟨q,by rw[List.getElem?_append_left (List.getElem?_eq_some_iff.1 h1).1];exact h1,hq⟩
section
variable {P:Program} {ρ:Option Nat} {n:Sz} {E:Ent} {I:IMap} {L:LL} {H:List Res} {Q:Exit→Act→World→Prop} {ops:Array Oper} {K:Act→World→Prop}
variable {d ty:Nat} {pos:String} {af:Array Edge} {x y:Operand} {xss:List (List Value)} {c:List Value} {g off tt t' k kk:Nat}
theorem b9z (hU:Uk k xss) {i j:Nat} (hi:xss[i]? = some c) {vs:List Value} (hv:(c.drop j).take kk=vs) (hk:vs.length=kk) (hk0:0<kk):(xss.flatten.drop (i * k+j)).take kk=vs:=by
 have h1:=b4X hU hi
 have hc:c.length=k:=hU c (List.mem_of_getElem? hi)
 have hjk:j+kk≤k:=by
  have:=congrArg List.length hv
  rw[List.length_take,List.length_drop]at this
  omega
 rw[←hv,←h1,List.drop_take,List.take_take,List.drop_drop,Nat.min_eq_left (by omega)]
theorem a2s (vs:List Value) (hm:Res.blk g t' xss.flatten∈H) (hU:Uk k xss) (ht:tyK P tt=some (true,kk)) (hx:ev L x=some (.pointer (some ⟨g,off,none⟩))) (i j:Nat) (ho:off=i * k+j) (hi:xss[i]? = some c) (hv:(c.drop j).take kk=vs) (hk:vs.length=kk) (hk0:Nat.blt 0 kk=true) :
  OV P n E I L H ⟨some d,.load tt x,ty,pos,af,none⟩ (.agg vs.toArray):=a2o vs hm ht hx (by subst ho;exact b9z hU hi hv hk (by simpa[Nat.blt_eq]using hk0)) hk
theorem c5K {v:Value} (hm:Res.blk g t' xss.flatten∈H) (hU:Uk k xss) (ht:tyK P tt=some (false,1)) (hx:ev L x=some (.pointer (some ⟨g,off,none⟩))) (i j:Nat) (ho:off=i * k+j) (hi:xss[i]? = some c) (hv:c[j]? = some v) :
  OV P n E I L H ⟨some d,.load tt x,ty,pos,af,none⟩ v:=a6t hm ht hx (by
   subst ho
   have hj:j<c.length:=(List.getElem?_eq_some_iff.1 hv).1
   have h1:=b9z (kk:=1) hU hi (j:=j) (vs:=[v]) (by
    rw[List.drop_eq_getElem_cons hj];rw[List.getElem?_eq_getElem hj]at hv
    cases hv;rfl) rfl (by omega)
   have h2:=congrArg (·[0]?) h1
   simpa[List.getElem?_take,List.getElem?_drop]using h2)
theorem a1d {b:Bool} {v:Value} (vs c':List Value) (hU:Uk k xss) (ht:tyK P tt=some (b,kk)) (hx:ev L x=some (.pointer (some ⟨g,off,none⟩))) (hy:ev L y=some v) (hv:v.cells=vs.toArray) (hk:vs.length=kk) (h1:vs.all (·.oneCell')=true) (i j:Nat) (ho:off=i * k+j) (hi:xss[i]? = some c) (hjk:j+kk≤k) (hc:c.take j++(vs++c.drop (j+kk))=c')
  (kk':SX n E I L (.blk g t' (xss.set i c').flatten::H) K):SX n E I L (.blk g t' xss.flatten::H) (one P ops Q ⟨none,.store tt x y,ty,pos,af,none⟩ K):=by
 subst ho
 have hil:i<xss.length:=(List.getElem?_eq_some_iff.1 hi).1
 have hcl:c.length=k:=hU c (List.mem_of_getElem? hi)
 have hc'l:c'.length=k:=by
  rw[←hc,List.length_append,List.length_append,List.length_take,List.length_drop,hk];omega
 have hspl:xss=xss.take i++c::xss.drop (i+1):=by
  have h2:xss[i]=c:=by rw[List.getElem?_eq_getElem hil]at hi;exact Option.some.inj hi
  rw[←h2,←List.drop_eq_getElem_cons hil,List.take_append_drop]
 have hfl:xss.flatten=(xss.take i).flatten++(c++(xss.drop (i+1)).flatten):=by
  conv=>lhs;rw[hspl]
  simp
 have hpl:(xss.take i).flatten.length=i * k:=by rw[a3l (hU.take i),List.length_take,Nat.min_eq_left (by omega)]
 refine c9Y vs _ ht hx hy hv hk ?_ h1 ?_ kk'
 ·apply Nat.ble_eq_true_of_le
  rw[a3l hU]
  have:(i+1) * k≤xss.length * k:=Nat.mul_le_mul_right _ hil
  rw[Nat.add_mul]at this
  omega
 ·rw[List.set_eq_take_append_cons_drop,if_pos hil,hfl];rw[List.flatten_append,List.flatten_cons]
  have e1:((xss.take i).flatten++(c++(xss.drop (i+1)).flatten)).take (i * k+j)=(xss.take i).flatten++c.take j:=by
   rw[←hpl,List.take_length_add_append,List.take_append_of_le_length (by omega)]
  have e2:((xss.take i).flatten++(c++(xss.drop (i+1)).flatten)).drop (i * k+j+kk)=c.drop (j+kk)++(xss.drop (i+1)).flatten:=by
   rw[←hpl,Nat.add_assoc,List.drop_length_add_append,List.drop_append_of_le_length (by omega)]
  rw[e1,e2,←hc]
  simp
end
end Go.Sx
