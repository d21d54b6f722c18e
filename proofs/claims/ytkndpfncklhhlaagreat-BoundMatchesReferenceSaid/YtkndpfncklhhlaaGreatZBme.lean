
import Derived.Test.YtkndpfncklhhlaaGreatZBmd
import Derived.Laws.Bits64b
import Derived.Lib.Mul64
import Derived.Maps.RangeRun
set_option linter.all false
namespace Go.Sx
open Go
def up (F:List Nat) (i:Nat):Nat:=F.getD i i
def rt (F:List Nat) (i:Nat):Nat:=if h:up F i<i then rt F (up F i) else i
termination_by i
section
variable {F G:List Nat} {i j x:Nat}
theorem a3H (h:up F i<i):rt F i=rt F (up F i):=by rw[rt,dif_pos h]
theorem a3v (h:¬up F i<i):rt F i=i:=by rw[rt,dif_neg h]
theorem c9u (F:List Nat) (i:Nat):rt F i≤i:=by
 induction i using Nat.strongRecOn with
 |ind i ih=>
  by_cases h:up F i<i
  ·rw[a3H h];exact Nat.le_trans (ih _ h) (Nat.le_of_lt h)
  ·rw[a3v h];exact Nat.le_refl _
theorem b5D (F:List Nat) (i:Nat):¬up F (rt F i)<rt F i:=by
 induction i using Nat.strongRecOn with
 |ind i ih=>
  by_cases h:up F i<i
  ·rw[a3H h];exact ih _ h
  ·rw[a3v h];exact h
theorem b5C (F:List Nat) (i:Nat):rt F (rt F i)=rt F i:=a3v (b5D F i)
theorem c5G (h:∀j,up F j=up G j) (i:Nat):rt F i=rt G i:=by
 induction i using Nat.strongRecOn with
 |ind i ih=>
  by_cases h1:up F i<i
  ·rw[a3H h1,a3H (F:=G) (by rw[←h];exact h1),←h i];exact ih _ h1
  ·rw[a3v h1,a3v (F:=G) (by rw[←h];exact h1)]
def Fst (F:List Nat):Prop:=∀i,up F i≤i
theorem c9W (hi:i<F.length):up F i=F[i]:=by simp[up,List.getD,hi]
theorem b1w (hi:i<F.length):up (F.set i x) j=if j=i then x else up F j:=by
 unfold up List.getD;rw[List.getElem?_set]
 by_cases h:i=j
 ·subst h;simp[hi]
 ·have h2:¬j=i:=fun e=>h e.symm
  simp[h,h2]
theorem Fst.half (h:Fst F) (hi:i<F.length):Fst (F.set i (up F (up F i)))∧∀j,rt (F.set i (up F (up F i))) j=rt F j:=by
 refine⟨fun j=>?_,fun j=>?_⟩
 ·rw[b1w hi]
  split
  ·rename_i e;subst e;exact Nat.le_trans (h _) (h _)
  ·exact h j
 ·induction j using Nat.strongRecOn with
  |ind j ih=>
   by_cases e:j=i
   ·subst e;have e1:up (F.set j (up F (up F j))) j=up F (up F j):=by rw[b1w hi,if_pos rfl]
    by_cases h1:up F j<j
    ·have h2:up F (up F j)<j:=Nat.lt_of_le_of_lt (h _) h1;rw[a3H (by rw[e1];exact h2),e1,ih _ h2,a3H h1]
     by_cases h3:up F (up F j)<up F j
     ·rw[a3H h3]
     ·have h4:up F (up F j)=up F j:=Nat.le_antisymm (h _) (Nat.not_lt.1 h3);rw[h4]
    ·have h4:up F j=j:=Nat.le_antisymm (h _) (Nat.not_lt.1 h1);rw[a3v h1,a3v (by rw[e1,h4,h4];exact Nat.lt_irrefl _)]
   ·have e1:up (F.set i (up F (up F i))) j=up F j:=by rw[b1w hi,if_neg e]
    by_cases h1:up F j<j
    ·rw[a3H (by rw[e1];exact h1),e1,ih _ h1,a3H h1]
    ·rw[a3v h1,a3v (by rw[e1];exact h1)]
theorem Fst.join {a b:Nat} (h:Fst F) (ha:rt F a=a) (hb:rt F b=b) (hab:a≤b) (hl:b<F.length):Fst (F.set b a)∧∀j,rt (F.set b a) j=if rt F j=b then a else rt F j:=by
 have ua:¬up F a<a:=by have:=b5D F a;rwa[ha]at this
 have ub:¬up F b<b:=by have:=b5D F b;rwa[hb]at this
 refine⟨fun j=>?_,fun j=>?_⟩
 ·rw[b1w hl]
  split
  ·omega
  ·exact h j
 ·induction j using Nat.strongRecOn with
  |ind j ih=>
   by_cases e:j=b
   ·subst e;have e1:up (F.set j a) j=a:=by rw[b1w hl,if_pos rfl]
    by_cases h1:a<j
    ·rw[a3H (by rw[e1];exact h1),e1,ih _ h1,ha,hb,if_pos rfl,if_neg oM]
    ·have:a=j:=oM;subst this;rw[a3v (by rw[e1];exact h1),ha,if_pos rfl]
   ·have e1:up (F.set b a) j=up F j:=by rw[b1w hl,if_neg e]
    by_cases h1:up F j<j
    ·rw[a3H (by rw[e1];exact h1),e1,ih _ h1,←a3H h1]
    ·rw[a3v h1,a3v (by rw[e1];exact h1),if_neg e]
theorem Fst.meet {a b:Nat} (h:Fst F) (ha:rt F a=a) (hb:rt F b=b) (hla:a<F.length) (hlb:b<F.length):Fst (F.set (max a b) (min a b))∧∀j,rt (F.set (max a b) (min a b)) j=if rt F j=a∨rt F j=b then min a b else rt F j:=by
 rcases Nat.le_total a b with hab|hab
 ·rw[Nat.max_eq_right hab,Nat.min_eq_left hab];obtain⟨h1,h2⟩:=h.join ha hb hab hlb;refine⟨h1,fun j=>?_⟩;rw[h2 j]
  by_cases e1:rt F j=b
  ·rw[if_pos e1,if_pos (.inr e1)]
  ·by_cases e2:rt F j=a
   ·rw[if_neg e1,if_pos (.inl e2),e2]
   ·rw[if_neg e1,if_neg (by rintro (h|h)<;>contradiction)]
 ·rw[Nat.max_eq_left hab,Nat.min_eq_right hab];obtain⟨h1,h2⟩:=h.join hb ha hab hla;refine⟨h1,fun j=>?_⟩;rw[h2 j]
  by_cases e1:rt F j=a
  ·rw[if_pos e1,if_pos (.inl e1)]
  ·by_cases e2:rt F j=b
   ·rw[if_neg e1,if_pos (.inr e2),e2]
   ·rw[if_neg e1,if_neg (by rintro (h|h)<;>contradiction)]
theorem c2P (F:List Nat) (j:Nat):up (F++[F.length]) j=up F j:=by
 unfold up List.getD
 rcases Nat.lt_or_ge j F.length with h|h
 ·rw[List.getElem?_append_left h]
 ·rw[List.getElem?_append_right h,List.getElem?_eq_none h]
  rcases Nat.eq_or_lt_of_le h with e|h2
  ·subst e;simp
  ·rw[List.getElem?_eq_none (by simp;omega)]
theorem Fst.snoc (h:Fst F):Fst (F++[F.length]):=fun j=>by rw[c2P];exact h j
theorem b5E (F:List Nat) (j:Nat):rt (F++[F.length]) j=rt F j:=c5G (c2P F) j
theorem d2B (h:F.length≤i):rt F i=i:=a3v (by unfold up List.getD;rw[List.getElem?_eq_none h];simp)
end
def nm (r:Rep) (z:ByteArray):Prop:=a0l r=true∧∃e∈r.options,z∈a1J e
theorem c1I {r:Rep} {ns:List ByteArray} (hn:a5t r ns) (z:ByteArray):z∈ns↔nm r z:=by
 rw[hn.1 z]
 constructor
 ·rintro⟨hv,e,he,h⟩;exact⟨hv,e,he,(b6G (a3r hv e he) z).1 h⟩
 ·rintro⟨hv,e,he,h⟩;exact⟨hv,e,he,(b6G (a3r hv e he) z).2 h⟩
inductive Lnk (l:List Rep):Nat→Nat→Prop
 |refl (i:Nat):Lnk l i i
 |one {i k:Nat} {z:ByteArray} (hi:i<l.length) (hk:k<l.length) (h1:nm l[i] z) (h2:nm l[k] z):Lnk l i k
 |symm {i k:Nat}:Lnk l i k→Lnk l k i
 |trans {i k m:Nat}:Lnk l i k→Lnk l k m→Lnk l i m
structure Rts (l:List Rep) (R:Nat→Nat):Prop where
 le:∀i,R i≤i
 idem:∀i,R (R i)=R i
 share:∀{i k:Nat} {z:ByteArray} (hi:i<l.length) (hk:k<l.length),nm l[i] z→nm l[k] z→R i=R k
 sound:∀i,Lnk l i (R i)
theorem Rts.lnk {l:List Rep} {R:Nat→Nat} (h:Rts l R) {i k:Nat} (hl:Lnk l i k):R i=R k:=by
 induction hl with
 |refl=>rfl
 |one hi hk h1 h2=>exact h.share hi hk h1 h2
 |symm _ ih=>exact ih.symm
 |trans _ _ h1 h2=>exact h1.trans h2
theorem Rts.uniq {l:List Rep} {R R':Nat→Nat} (h:Rts l R) (h':Rts l R'):R=R':=by
 funext i
 have h1:=h'.lnk (h.sound i);have h2:=h.lnk (h'.sound i);have h3:=h'.le (R i);have h4:=h.le (R' i)
 omega
theorem c4I {p:Nat→Prop}:∀n,p n→∃m,p m∧m≤n∧∀k,p k→m≤k:=by
 intro n
 induction n using Nat.strongRecOn with
 |ind n ih=>
  intro hn
  by_cases h:∃k,k<n∧p k
  ·obtain⟨k,hk,hp⟩:=h;obtain⟨m,h1,h2,h3⟩:=ih k hk hp;exact⟨m,h1,oM,h3⟩
  ·exact⟨n,hn,Nat.le_refl _,fun k hk=>Nat.le_of_not_lt fun h2=>h ⟨k,h2,hk⟩⟩
theorem b7u (l:List Rep):∃R,Rts l R:=by
 have h:∀i,∃m,Lnk l i m∧m≤i∧∀k,Lnk l i k→m≤k:=fun i=>c4I i (.refl i)
 refine⟨fun i=>Classical.choose (h i),?_⟩;have hs:=fun i=>(Classical.choose_spec (h i)).1
 have hle:=fun i=>(Classical.choose_spec (h i)).2.1
 have hm:=fun i=>(Classical.choose_spec (h i)).2.2
 have key:∀i k,Lnk l i k→Classical.choose (h i)=Classical.choose (h k):=fun i k hl=>by
  have h1:=hm i _ (hl.trans (hs k));have h2:=hm k _ (hl.symm.trans (hs i))
  omega
 exact⟨hle,fun i=>(key _ _ (hs i)).symm,fun hi hk h1 h2=>key _ _ (.one hi hk h1 h2),hs⟩
structure Lkd (l:List Rep) (n:Nat) (S:Nat→ByteArray→Prop) (F:List Nat) (fm:ByteArray→Option Nat):Prop where
 fst:Fst F
 len:F.length=n
 nl:n≤l.length
 lt:∀k z,S k z→k<n
 seen:∀k z,S k z→∃q,fm z=some q∧rt F q=rt F k
 own:∀z q,fm z=some q→q<n∧∃h:q<l.length,nm l[q] z
 sound:∀k,Lnk l k (rt F k)
section
variable {l:List Rep} {n i:Nat} {S S':Nat→ByteArray→Prop} {F F':List Nat} {fm:ByteArray→Option Nat} {z:ByteArray}
theorem Lkd.start:Lkd l 0 (fun _ _=>False) [] (fun _=>none):=
 ⟨fun i=>by simp[up],rfl,Nat.zero_le _,fun _ _ h=>h.elim,fun _ _ h=>h.elim,fun _ _ h=>by simp at h,fun k=>by rw[d2B (by simp)];exact .refl k⟩
theorem Lkd.congr (h:Lkd l n S F fm) (hS:∀k z,S' k z→S k z):Lkd l n S' F fm:=
 ⟨h.fst,h.len,h.nl,fun k z q=>h.lt k z (hS k z q),fun k z q=>h.seen k z (hS k z q),h.own,h.sound⟩
theorem Lkd.push (h:Lkd l n S F fm) (hn:n<l.length):Lkd l (n+1) S (F++[n]) fm:=by
 obtain rfl:=h.len;refine⟨h.fst.snoc,by simp,hn,fun k z q=>by have:=h.lt k z q;omega,fun k z q=>?_,fun z q hq=>?_,fun k=>by rw[b5E];exact h.sound k⟩
 ·obtain⟨m,h1,h2⟩:=h.seen k z q;exact⟨m,h1,by rw[b5E,b5E];exact h2⟩
 ·obtain⟨h1,h2⟩:=h.own z q hq;exact⟨oM,h2⟩
theorem Lkd.same (h:Lkd l n S F fm) (hf:Fst F') (hl:F'.length=F.length) (hr:∀j,rt F' j=rt F j):Lkd l n S F' fm:=
 ⟨hf,hl.trans h.len,h.nl,h.lt,fun k z q=>by obtain⟨m,h1,h2⟩:=h.seen k z q;exact⟨m,h1,by rw[hr,hr];exact h2⟩,h.own,fun k=>by rw[hr];exact h.sound k⟩
theorem Lkd.hit {q:Nat} (h:Lkd l n S F fm) (hi:i<n) (hz:∃h:i<l.length,nm l[i] z) (hq:fm z=some q) (hf:Fst F') (hl:F'.length=F.length) (hr:∀j,rt F' j=if rt F j=rt F q∨rt F j=rt F i then min (rt F q) (rt F i) else rt F j) :
  Lkd l n (fun k y=>S k y∨k=i∧y=z) F' fm:=by
 have hc:∀a b,rt F a=rt F b→rt F' a=rt F' b:=fun a b e=>by rw[hr,hr,e]
 refine⟨hf,hl.trans h.len,h.nl,fun k y hk=>?_,fun k y hk=>?_,h.own,fun k=>?_⟩
 ·rcases hk with hk|⟨rfl,rfl⟩
  ·exact h.lt k y hk
  ·exact hi
 ·rcases hk with hk|⟨rfl,rfl⟩
  ·obtain⟨m,h1,h2⟩:=h.seen k y hk;exact⟨m,h1,hc _ _ h2⟩
  ·exact⟨q,hq,by rw[hr,hr,if_pos (.inl rfl),if_pos (.inr rfl)]⟩
 ·rw[hr];obtain⟨_,hql,hqz⟩:=h.own z q hq;obtain⟨hil,hiz⟩:=hz;have hqi:Lnk l q i:=.one hql hil hqz hiz
  split
  ·rename_i e
   have h1:Lnk l k q:=by
    rcases e with e|e
    ·exact (h.sound k).trans (e▸(h.sound q).symm)
    ·exact ((h.sound k).trans (e▸(h.sound i).symm)).trans hqi.symm
   rcases Nat.le_total (rt F q) (rt F i) with h2|h2
   ·rw[Nat.min_eq_left h2];exact h1.trans (h.sound q)
   ·rw[Nat.min_eq_right h2];exact (h1.trans hqi).trans (h.sound i)
  ·exact h.sound k
theorem Lkd.new (h:Lkd l n S F fm) (hi:i<n) (hz:∃h:i<l.length,nm l[i] z) (hq:fm z=none):Lkd l n (fun k y=>S k y∨k=i∧y=z) F (fun y=>if z=y then some i else fm y):=by
 refine⟨h.fst,h.len,h.nl,fun k y hk=>?_,fun k y hk=>?_,fun y q hy=>?_,h.sound⟩
 ·rcases hk with hk|⟨rfl,rfl⟩
  ·exact h.lt k y hk
  ·exact hi
 ·rcases hk with hk|⟨rfl,rfl⟩
  ·obtain⟨m,h1,h2⟩:=h.seen k y hk;refine⟨m,?_,h2⟩
   show (if z=y then some i else fm y)=some m
   rw[if_neg (by rintro rfl;rw[hq]at h1;cases h1)];exact h1
  ·exact⟨k,by simp,rfl⟩
 ·split at hy
  ·rename_i e;subst e
   obtain rfl:=Option.some.inj hy;exact⟨hi,hz⟩
  ·exact h.own y q hy
theorem Lkd.done (h:Lkd l l.length S F fm) (hS:∀k z (hk:k<l.length),nm l[k] z→S k z):Rts l (rt F):=by
 refine⟨c9u F,b5C F,fun {i k z} hi hk h1 h2=>?_,h.sound⟩;obtain⟨q,e1,e2⟩:=h.seen i z (hS i z hi h1);obtain⟨q',e3,e4⟩:=h.seen k z (hS k z hk h2);rw[e1]at e3
 obtain rfl:=Option.some.inj e3;exact e2.symm.trans e4
end
def a1c (R:Nat→Nat) (n:Nat):List Nat:=(List.range n).filter fun i=>decide (R i=i)
def a1U (R:Nat→Nat) (n r:Nat):List Nat:=(List.range n).filter fun k=>decide (R k=r)
def a5Q (R:Nat→Nat) (n:Nat):List (List Nat):=(a1c R n).map (a1U R n)
section
variable {R:Nat→Nat} {n r k:Nat}
theorem c1v:k∈a1c R n↔k<n∧R k=k:=by simp[a1c]
theorem b2e:k∈a1U R n r↔k<n∧R k=r:=by simp[a1U]
theorem b1n:a1c R (n+1)=if R n=n then a1c R n++[n] else a1c R n:=by
 unfold a1c;rw[List.range_succ,List.filter_append]
 by_cases h:R n=n<;>simp[h]
theorem a5e:a1U R (n+1) r=if R n=r then a1U R n r++[n] else a1U R n r:=by
 unfold a1U;rw[List.range_succ,List.filter_append]
 by_cases h:R n=r<;>simp[h]
theorem b9X:(a5Q R n).length=(a1c R n).length:=by simp[a5Q]
end
end Go.Sx
set_option linter.all false
namespace Go.Sx
open Go
theorem Fst.rt_up {F:List Nat} (h:Fst F) (i:Nat):rt F (up F i)=rt F i:=by
 by_cases h1:up F i<i
 ·rw[a3H h1]
 ·rw[show up F i=i from Nat.le_antisymm (h i) (Nat.not_lt.1 h1)]
def a4Z (F:List Nat):List (List Value):=F.map fun (x:Nat)=>[ci (x:Int)]
def nI (F:List Nat):List Int:=F.map fun (x:Nat)=>(x:Int)
section
variable {F:List Nat} {rest:List (List Value)} {i x:Nat}
theorem a2b (F:List Nat):Uk 1 (a4Z F):=fun c hc=>by obtain⟨x,_,rfl⟩:=List.mem_map.1 hc;rfl
theorem a3L (F:List Nat):(a4Z F).length=F.length:=by simp[a4Z]
theorem b2g (h:i<F.length):(a4Z F++rest)[i]? = some [ci ((F[i]:Nat):Int)]:=by
 rw[List.getElem?_append_left (by rw[a3L];exact h)];simp[a4Z,h]
theorem b6H (h:i<F.length) (x:Nat):(a4Z F++rest).set i [ci (x:Int)]=a4Z (F.set i x)++rest:=by
 rw[List.set_append_left _ _ (by rw[a3L];exact h)];simp[a4Z,List.map_set]
theorem b3s (F:List Nat) (x:Nat):(a4Z F).flatten++[ci (x:Int)]=(a4Z (F++[x])).flatten:=by simp[a4Z]
theorem a4J (F:List Nat):(nI F).length=F.length:=by simp[nI]
theorem c8G (h:i<F.length) (h2:i<(nI F).length):(nI F)[i]=(F[i]:Nat):=by simp[nI]
theorem c1E {I:IMap} (F:List Nat):Flat I (a4Z F).flatten (nI F):=by
 induction F with
 |nil=>exact .nil
 |cons x F ih=>exact .cons (vs:=[ci (x:Int)]) rfl ih
end
section
variable {P:Program} {n:Sz} {E:Ent} {I:IMap} {L:LL} {H:List Res} {K:Act→World→Prop} {α:Type} {f:α→Res} {l:List α} {k:Nat} {a b c d e:Res}
end
abbrev Lst:=Value×List Nat
section
variable {P:Program} {n:Sz} {E:Ent} {I:IMap} {L:LL} {H:List Res} {K:Act→World→Prop} {e:Nat}
end
section
variable {P:List Lst} {rest:List (List Value)} {k:Nat}
end
section
variable {n:Sz} {E:Ent} {I:IMap} {L:LL} {H:List Res} {K:Act→World→Prop} {e:Nat} {v:Value} {q:List Nat} {x:Nat}
end
section
variable {R:Nat→Nat} {i k r:Nat}
end
theorem c8D {kvs:List (ByteArray×Value)} {fm:ByteArray→Option Nat} (hM:∀z,a4I kvs z=(fm z).map fun (q:Nat)=>Value.int .i64 (q:Int)) (k:ByteArray) (i:Nat):∀z,a4I (a5I kvs k (.int .i64 (i:Int))) z=(if k=z then some i else fm z).map fun (q:Nat)=>Value.int .i64 (q:Int):=fun z=>by
 rw[a9N,hM z];split<;>rfl
theorem b6A {a:Prop} {k i j:Nat} {z:ByteArray} {ns:List ByteArray} (hj:j<ns.length) (h:a∨(k=i∧z∈ns.take (j+1))):(a∨(k=i∧z∈ns.take j))∨(k=i∧z=ns[j]):=by
 rcases h with h|⟨h1,h2⟩
 ·exact .inl (.inl h)
 ·rw[←a0e hj]at h2
  rcases List.mem_append.1 h2 with h2|h2
  ·exact .inl (.inr ⟨h1,h2⟩)
  ·exact .inr ⟨h1,List.mem_singleton.1 h2⟩
theorem c8C {l:List Rep} {i k:Nat} {z:ByteArray} {ns:List ByteArray} (hi:i<l.length) (hn:a5t l[i] ns) (h:k<i+1∧∃h:k<l.length,nm l[k] z):(k<i∧∃h:k<l.length,nm l[k] z)∨(k=i∧z∈ns):=by
 obtain⟨h1,h2,h3⟩:=h
 rcases Nat.lt_or_ge k i with h4|h4
 ·exact .inl ⟨h4,h2,h3⟩
 ·obtain rfl:k=i:=oM;exact .inr ⟨rfl,(c1I hn z).2 h3⟩
end Go.Sx
set_option linter.all false
namespace Go.Sx
open Go
def a5i {α:Type} (l:List α) (C:List Nat):List α:=C.filterMap fun i=>l[i]?
section
variable {α:Type} {l:List α} {C:List Nat}
theorem a6r {i:Nat} (h:i<l.length) (C:List Nat):a5i l (i::C)=l[i]::a5i l C:=by
 simp[a5i,List.filterMap_cons,h]
theorem a5j (h:∀i∈C,i<l.length):(a5i l C).length=C.length:=by
 induction C with
 |nil=>rfl
 |cons i C ih=>rw[a6r (h i (by simp))];simp[ih fun k hk=>h k (by simp[hk])]
theorem c4W (h:∀i∈C,i<l.length) {k:Nat} (hk:k<C.length):(a5i l C)[k]? = some (l[C[k]]'(h _ (List.getElem_mem hk))):=by
 induction C generalizing k with
 |nil=>simp at hk
 |cons i C ih=>
  rw[a6r (h i (by simp))]
  cases k with
  |zero=>simp
  |succ k=>simpa using ih (fun k hk=>h k (by simp[hk])) (by simpa using hk)
theorem c1Z (h:∀i∈C,i<l.length) {k:Nat} (hk:k<C.length) (h2:k<(a5i l C).length):(a5i l C)[k]=l[C[k]]'(h _ (List.getElem_mem hk)):=by
 have:=c4W h hk;rw[List.getElem?_eq_getElem h2]at this
 exact Option.some.inj this
theorem c2a {x:α} (h:x∈a5i l C):x∈l:=by
 obtain⟨i,_,hi⟩:=List.mem_filterMap.1 h;exact List.mem_of_getElem? hi
theorem a8t (A B:List Nat):a5i l (A++B)=a5i l A++a5i l B:=by simp[a5i]
theorem b5q (l:List α):a5i l (List.range l.length)=l:=by
 refine List.ext_getElem ?_ fun k h1 h2=>?_
 ·rw[a5j (fun i hi=>List.mem_range.1 hi),List.length_range]
 ·rw[c1Z (fun i hi=>List.mem_range.1 hi) (by simpa using h2)];simp
end
section
variable {c:List Kind} {l:List Rep} {R:Nat→Nat} {t:List Int} {r:Nat}
theorem c1y {n i:Nat} (h:i∈a1U R n r):i<n:=(b2e.1 h).1
end
end Go.Sx
namespace Go.Proofs.YtkndpfncklhhlaaGreat
open Go Go.Sx Tryz
set_option linter.all false
set_option maxRecDepth 20000
set_option maxHeartbeats 4000000
instance:Has (a9w prog 143) (3,1):=hk
instance:Has (prog.underlying 143) (.slice 3):=hk
theorem a8S (I:IMap) (g cap:Nat) (F:List Nat) (rest:List (List Value)) (hR:Uk 1 rest) (hF:Fst F) (i:Nat) (hi:i<F.length) :
    FnG prog 87 #[.slice (some ⟨g,0,none⟩) F.length cap,.int .i64 ((i:Nat):Int)] I (.blk g 3 (a4Z F++rest).flatten) (fun u J r=>∃G,u = .int .i64 ((rt F i:Nat):Int)∧r = .blk g 3 (a4Z G++rest).flatten∧G.length=F.length∧Fst G∧∀q,rt G q=rt F q):=by
 refine enter func87 call87 rfl ntmps87 rfl fun w0=>?_;refine go 7 ?_
 refine a1i (i) (F) (fun j G=>I)
  (fun j G=>[(0,.slice (some ⟨g,0,none⟩) F.length cap),(1,.int .i64 ((j:Nat):Int))])
  (fun j G=>[.blk g 3 (a4Z G++rest).flatten])
  (fun j G=>j<F.length∧G.length=F.length∧Fst G∧(∀q,rt G q=rt F q)∧rt F j=rt F i)
  (fun j G=>j) ⟨hi,rfl,hF,fun _=>rfl,rfl⟩ rfl sb rfl ?_
 intro j G ⟨hj,hG,hFG,hr,hje0⟩;have hjG:j<G.length:=oM;have hup:up G j=G[j]:=c9W hjG;have hle:G[j]≤j:=by rw[←hup];exact hFG j
 have hgG:G[j]<G.length:=oM;have hup2:up G (up G j)=G[G[j]]:=by rw[hup];exact c9W hgG
 have hle2:G[G[j]]≤G[j]:=by have:=hFG G[j];rw[c9W hgG]at this;exact this
 refine go 5 ?_;refine o_v rfl (a0i he rfl rfl rfl (j) oM oM) ?_;refine o_v rfl (a3Y m0 (Uk.append (a2b _) hR) he rfl (j) oM (b2g hjG)) ?_;refine gC 4 (fun h10 p10=>?_) fun h10 p10=>?_
 ·have hjne:G[j]<j:=oM;refine go 10 ?_;refine o_v rfl (a0i he rfl rfl rfl (j) oM oM) ?_;refine o_v rfl (a3Y m0 (Uk.append (a2b _) hR) he rfl (j) oM (b2g hjG)) ?_;refine o_v rfl (a0i he rfl rfl rfl (G[j]) oM oM) ?_;refine o_v rfl (a3Y m0 (Uk.append (a2b _) hR) he rfl (G[j]) oM (b2g hgG)) ?_;refine o_v rfl (a0i he rfl rfl rfl (j) oM oM) ?_;refine go 1 ?_;refine a1Q _ (j) (Uk.append (a2b _) hR) he rfl rfl rfl rfl rfl oM (by rw[List.length_append,a3L];omega) ?_;refine a2x (a4Z (G.set j G[G[j]])++rest).flatten (by rw[b6H hjG]) ?_;refine go 5 ?_;refine o_v rfl (a0i he rfl rfl rfl (j) oM oM) ?_;refine o_v rfl (OV.cast (u:=.int .i64 ((G[G[j]]:Nat):Int)) (a3Y m0 (Uk.append (a2b _) hR) he rfl (j) oM (b2g (by simp;omega))) (congrArg (Value.int .i64) (by simp))) ?_;refine go 4 ?_;exact a0t (G[G[j]]) (G.set j G[G[j]]) ⟨oM,by simp[hG],hup2▸(hFG.half hjG).1,fun q=>by rw[←hup2,(hFG.half hjG).2 q,hr q],by rw[←hje0,←hr,←hr j,←hup2,hFG.rt_up,hFG.rt_up]⟩ oM rfl sb rfl
 ·have hje:rt F i=j:=by rw[←hje0,←hr j];exact a3v oM
  refine go 13 ?_;exact q_g ⟨G,by rw[hje],rfl,hG,hFG,hr⟩
theorem c4J (I:IMap) (g cap:Nat) (F:List Nat) (rest:List (List Value)) (hR:Uk 1 rest) (hF:Fst F) (a b:Nat) (ha:a<F.length) (hb:b<F.length) :
    FnG prog 138 #[.slice (some ⟨g,0,none⟩) F.length cap,.int .i64 ((a:Nat):Int),.int .i64 ((b:Nat):Int)] I (.blk g 3 (a4Z F++rest).flatten) (fun u J r=>∃G,u = .tuple #[]∧r = .blk g 3 (a4Z G++rest).flatten∧G.length=F.length∧Fst G∧∀q,rt G q=if rt F q=rt F a∨rt F q=rt F b then min (rt F a) (rt F b) else rt F q):=by
 refine enter func138 call138 rfl ntmps138 rfl fun w0=>?_;refine go 5 ?_;refine a7Z (a8S _ g cap F rest hR hF a ha) rfl rfl fun v10 I10 s10 j10 q10=>?_;obtain⟨G,rfl,rfl,hG,hFG,hr⟩:=q10;refine go 3 ?_;refine a7Z (hG▸a8S _ g cap G rest hR hFG b oM) rfl rfl fun v13 I13 s13 j13 q13=>?_;obtain⟨G2,rfl,rfl,hG2,hFG2,hr2⟩:=q13;have hra:=c9u F a;have hrb:=c9u F b;rw[hr b];have hmx:max (rt F a) (rt F b)<G2.length:=oM;refine go 8 ?_;refine o_v rfl (OV.cast (u:=.int .i64 ((max (rt F a) (rt F b):Nat):Int)) (d0i rfl rfl) (congrArg (Value.int .i64) (by split<;>omega))) ?_;refine go 2 ?_;refine o_v rfl (OV.cast (u:=.int .i64 ((min (rt F a) (rt F b):Nat):Int)) (d2L rfl rfl) (congrArg (Value.int .i64) (by split<;>omega))) ?_;refine o_v rfl (a0i he rfl rfl rfl (max (rt F a) (rt F b)) oM oM) ?_;refine go 1 ?_;refine a1Q _ (max (rt F a) (rt F b)) (Uk.append (a2b _) hR) he rfl rfl rfl rfl rfl oM (by rw[List.length_append,a3L];omega) ?_;refine a2x (a4Z (G2.set (max (rt F a) (rt F b)) (min (rt F a) (rt F b)))++rest).flatten (by rw[b6H hmx]) ?_;refine go 2 ?_;have hid:∀q,rt G2 q=rt F q:=fun q=>(hr2 q).trans (hr q)
 obtain⟨m1,m2⟩:=hFG2.meet (a:=rt F a) (b:=rt F b) (by rw[hid,b5C]) (by rw[hid,b5C]) oM oM;exact q_g ⟨_,rfl,rfl,by simp;omega,m1,fun q=>by rw[m2 q,hid q]⟩
theorem b8y (I:IMap) (v:Value) (l:List Rep) (hv:RdS I v l) (hl:l.length≤1000000) (hsl:∀r∈l,∀e∈r.options,SmE e)  :
    FnH prog 86 #[v] I [] (fun u J H2=>∃w m F kvs fm,u = .tuple #[w,.map (some m)]∧H2=[.row w 3 1 F.length (a4Z F).flatten,.mp m (a2l Value.string kvs)]∧Lkd l l.length (fun k z=>∃h:k<l.length,nm l[k] z) F fm∧(∀z,a4I kvs z=(fm z).map fun (q:Nat)=>Value.int .i64 (q:Int))):=by
 have hv0:=hv;obtain⟨A,c0,rfl,hA,hc,hm⟩:=hv;refine enter func86 call86 rfl ntmps86 rfl fun w0=>?_;refine go 8 ?_;refine a0G 3 1 ?_;refine go 6 ?_;refine a7z (Value.string) he rfl fun r11=>?_;refine go 12 ?_;refine a0b ?_
 refine c7E ((0:Nat)) (_) ([]) ([]) ((fun _=>none)) (I) (fun i v4 F kvs fm J=>J)
  (fun i v4 F kvs fm J=>[(0,.slice A l.length c0),(5,.map (some r11)),(13,.int .i64 ((l.length:Nat):Int)),(14,.int .i64 ((i:Nat):Int)),(4,v4)])
  (fun i v4 F kvs fm J=>[.row v4 3 1 F.length (a4Z F).flatten,.mp r11 (a2l Value.string kvs)])
  (fun i v4 F kvs fm J=>i≤l.length∧ILe I J∧Lkd l i (fun k z=>k<i∧∃h:k<l.length,nm l[k] z) F fm∧(∀z,a4I kvs z=(fm z).map fun (q:Nat)=>Value.int .i64 (q:Int)))
  (fun i v4 F kvs fm J=>l.length-i) ⟨Nat.zero_le _,ILe.refl _,Lkd.start.congr (fun k z h=>absurd h.1 (Nat.not_lt_zero k)),fun z=>rfl⟩ rfl sb rfl ?_
 intro i v4 F kvs fm J ⟨hi,hJ,hK,hM⟩;have hlF:=hK.len;have hv0:=hv0.le hJ;have hA:=hA.le hJ;refine gC 6 (fun h15 p15=>?_) fun h15 p15=>?_
 ·have hlt:i<l.length:=oM;refine go 16 fun v19=>?_
  refine go 1 ?_;refine a0b ?_;refine a0o he he rfl rfl rfl rfl rfl oM oM rfl fun v20=>?_;refine go 5 ?_;refine b7I (ys:=(a4Z (F++[i])).flatten) (show _=_ from b3s F i) ?_;refine a7L (a2b (F++[i])) (by simp[a3L]) (fun h0 _=>oM) fun g21 cap21 rest21 hv21 hR21 hcap21 hmax21=>?_;subst hv21;refine go 2 ?_;obtain⟨b23,o23,w23,e23,c23,r23⟩:=RdA.at_ hA (i:=i) oM;obtain⟨q23,rfl,S23,d23,rfl,hS23,hd23,hm23⟩:=r23;refine go 3 ?_;refine a0D (c5B _ l[i] S23 d23 ⟨_,_,rfl,hS23,hd23,hm23⟩ (hsl _ (List.getElem_mem hlt))) rfl rfl fun v25 I25 j25 q25=>?_
  try have hv0:=hv0.le j25
  try have hA:=hA.le j25
  try have hNA:=hNA.le j25
  obtain⟨ns,hns,hno⟩:=q25;obtain⟨NA,nc,rfl,hNA,_,_⟩:=hns;have hnl:=hno.2;refine go 5 ?_;refine a0b ?_;refine a0a ?_
  refine a6N ((0:Nat)) ((F++[i])) (kvs) (fm) (_) (fun j G kvs2 fm2 J2=>J2)
   (fun j G kvs2 fm2 J2=>[(0,.slice A l.length c0),(5,.map (some r11)),(13,.int .i64 ((l.length:Nat):Int)),(14,.int .i64 ((i:Nat):Int)),(4,.slice (some ⟨g21,0,none⟩) (F.length+1) cap21),(6,.int .i64 ((i:Nat):Int)),(25,.slice NA ns.length nc),(26,.int .i64 ((ns.length:Nat):Int)),(27,.int .i64 ((j:Nat):Int))])
   (fun j G kvs2 fm2 J2=>[.blk g21 3 (a4Z G++rest21).flatten,.mp r11 (a2l Value.string kvs2)])
   (fun j G kvs2 fm2 J2=>j≤ns.length∧ILe I25 J2∧Lkd l (i+1) (fun k z=>(k<i∧∃h:k<l.length,nm l[k] z)∨(k=i∧z∈ns.take j)) G fm2∧(∀z,a4I kvs2 z=(fm2 z).map fun (q:Nat)=>Value.int .i64 (q:Int)))
   (fun j G kvs2 fm2 J2=>ns.length-j) ⟨Nat.zero_le _,ILe.refl _,(hK.push hlt).congr (fun k z h=>h.elim id fun h=>by simp at h),hM⟩ rfl sb rfl ?_
  intro j G kvs2 fm2 J2 ⟨hj,hJ2,hK2,hM2⟩;have hGl:G.length=F.length+1:=by rw[hK2.len,hlF]
  have hG1:=hK2.len;have hv0:=hv0.le hJ2;have hA:=hA.le hJ2;have hNA:=hNA.le hJ2;refine gC 6 (fun h28 p28=>?_) fun h28 p28=>?_
  ·have hlj:j<ns.length:=oM;refine go 6 ?_;obtain⟨b29,o29,w29,e29,c29,r29⟩:=RdA.at_ hNA (i:=j) oM;obtain rfl:=r29;refine go 9 ?_;refine o_v rfl (a8v m1 (a0O he) he he (ns[j]) rfl rfl rfl rfl) ?_;refine gC 12 (fun h37 p37=>?_) fun h37 p37=>?_
   ·obtain⟨q,hq⟩:∃q,fm2 ns[j]=some q:=by
      rw[hM2]at h37
      cases hq:fm2 ns[j]with
      |none=>rw[hq]at h37;cases h37
      |some q=>exact⟨q,rfl⟩
    have hmg:(a4I kvs2 ns[j]).getD (.int .i64 0) = .int .i64 (q:Int):=by rw[hM2,hq];rfl
    rw[hmg];have hq1:=(hK2.own _ q hq).1;refine go 5 ?_;refine a7Z (hGl▸c4J _ g21 cap21 G rest21 hR21 hK2.fst q i oM oM) rfl rfl fun v41 I41 s41 j41 q41=>?_
    try have hv0:=hv0.le j41
    try have hA:=hA.le j41
    try have hNA:=hNA.le j41
    obtain⟨G2,rfl,rfl,hG2,hFG2,hr2⟩:=q41;refine go 8 ?_;exact a1R (j+1) (G2) (kvs2) (fm2) (_) ⟨oM,hJ2.trans j41,(hK2.hit oM ⟨hlt,(c1I hno _).1 (List.getElem_mem hlj)⟩ hq hFG2 (hG2.trans hGl.symm) hr2).congr fun k z h=>b6A hlj h,hM2⟩ oM rfl sb rfl
   ·have hq0:fm2 ns[j]=none:=by
      rw[hM2]at h37
      cases hq:fm2 ns[j]with
      |none=>rfl
      |some q=>rw[hq]at h37;cases h37
    refine go 5 ?_;refine a0b ?_;refine a4l (a5I kvs2 ns[j] (.int .i64 (i:Int))) (a0O he) he (ns[j]) rfl rfl rfl (rfl) ?_;refine go 8 ?_;refine a0b ?_;exact a1R (j+1) (G) ((a5I kvs2 ns[j] (.int .i64 (i:Int)))) ((fun y=>if ns[j]=y then some i else fm2 y)) (_) ⟨oM,hJ2,(hK2.new oM ⟨hlt,(c1I hno _).1 (List.getElem_mem hlj)⟩ hq0).congr fun k z h=>b6A hlj h,c8D hM2 ns[j] i⟩ oM rfl sb rfl
  ·obtain rfl:j=ns.length:=oM;rw[List.take_length]at hK2
   refine a2q (a2b G) hR21 (by rw[a3L];omega) hcap21 hmax21 ?_;refine go 11 ?_;exact c9f (i+1) (_) (G) (kvs2) (fm2) (_) ⟨oM,hJ.trans (j25.trans hJ2),hK2.congr (fun k z h=>c8C hlt hno h),hM2⟩ oM rfl sb (by simp only[hGl])
 ·obtain rfl:i=l.length:=oM;refine go 15 ?_;exact a4N (fun _ m=>m) ⟨_,_,F,kvs,fm,rfl,rfl,hK.congr (fun k z h=>⟨h.1,h⟩),hM⟩
end Go.Proofs.YtkndpfncklhhlaaGreat
set_option linter.all false
namespace Go.Sx
open Go
def NmL (l:List Rep) (W:List (List ByteArray)):Prop:=W.length=l.length∧∀i (h1:i<W.length) (h2:i<l.length) z,z∈W[i]↔nm l[i] z
structure Lea (l:List Rep) (F:List Nat):Prop where
 len:F.length=l.length
 le:∀i (h:i<F.length),F[i]≤i
 idem:∀i (h:i<F.length) (h2:F[i]<F.length),F[F[i]]=F[i]
 sound:∀i (h:i<F.length),Lnk l i F[i]
section
variable {l:List Rep} {F:List Nat} {W:List (List ByteArray)} {i k a b:Nat}
theorem Lea.lt (h:Lea l F) (hi:i<F.length):F[i]<F.length:=Nat.lt_of_le_of_lt (h.le i hi) hi
theorem c1j (l:List Rep):Lea l (List.range l.length):=⟨by simp,fun i h=>by simp,fun i h h2=>by simp,fun i h=>by simp only[List.getElem_range];exact .refl i⟩
def a3Z (F:List Nat) (hi lo:Nat):List Nat:=F.map fun x=>if x=hi then lo else x
theorem a6q (F:List Nat) (hi lo:Nat):(a3Z F hi lo).length=F.length:=by simp[a3Z]
theorem Lea.meet (h:Lea l F) (hi:i<F.length) (hk:k<F.length) (hne:F[i]≠F[k]) (hl:Lnk l i k):Lea l (a3Z F (max F[i] F[k]) (min F[i] F[k]))∧(a3Z F (max F[i] F[k]) (min F[i] F[k])).sum<F.sum:=by
 have key:∀(A B:Nat),A<B→(∃p,∃hp:p<F.length,F[p]=A)→(∃p,∃hp:p<F.length,F[p]=B)→Lnk l A B→Lea l (a3Z F B A)∧(a3Z F B A).sum<F.sum:=by
  rintro A B hAB ⟨p,hp,hpA⟩ ⟨q,hq,hqB⟩ hAk;have hA:A<F.length:=hpA▸h.lt hp;have hFA:F[A]=A:=by have:=h.idem p hp (h.lt hp);simpa only[hpA]using this
  refine⟨⟨by rw[a6q];exact h.len,fun j hj=>?_,fun j hj hj2=>?_,fun j hj=>?_⟩,?_⟩
  ·rw[a6q]at hj
   have:=h.le j hj
   simp only[a3Z,List.getElem_map]
   split<;>omega
  ·rw[a6q]at hj
   simp only[a3Z,List.getElem_map]
   by_cases e:F[j]=B
   ·simp only[e,if_true,hFA]
    rw[if_neg oM]
   ·simp only[if_neg e]
    rw[h.idem j hj (h.lt hj),if_neg e]
  ·rw[a6q]at hj
   simp only[a3Z,List.getElem_map]
   have:=h.sound j hj
   split
   ·rename_i e;rw[e]at this;exact this.trans hAk.symm
   ·exact this
  ·have hle:∀(G:List Nat),(a3Z G B A).sum≤G.sum:=fun G=>by
    induction G with
    |nil=>exact Nat.le_refl _
    |cons x G ih=>
     simp only[a3Z,List.map_cons,List.sum_cons]at ih ⊢
     split<;>omega
   have hlt:∀(G:List Nat),B∈G→(a3Z G B A).sum<G.sum:=fun G=>by
    induction G with
    |nil=>intro h;cases h
    |cons x G ih=>
     intro hm;have h1:=hle G
     simp only[a3Z,List.map_cons,List.sum_cons]at ih h1 ⊢
     rcases List.mem_cons.1 hm with rfl|hm
     ·rw[if_pos rfl];omega
     ·have:=ih hm
      split<;>omega
   exact hlt F (hqB▸List.getElem_mem hq)
 have l1:=h.sound i hi;have l2:=h.sound k hk
 rcases Nat.lt_or_gt_of_ne hne with h1|h1
 ·rw[Nat.max_eq_right (Nat.le_of_lt h1),Nat.min_eq_left (Nat.le_of_lt h1)];exact key F[i] F[k] h1 ⟨i,hi,rfl⟩ ⟨k,hk,rfl⟩ ((l1.symm.trans hl).trans l2)
 ·rw[Nat.max_eq_left (Nat.le_of_lt h1),Nat.min_eq_right (Nat.le_of_lt h1)];exact key F[k] F[i] h1 ⟨k,hk,rfl⟩ ⟨i,hi,rfl⟩ ((l2.symm.trans hl.symm).trans l1)
def c6N (F:List Nat) (i:Nat):Nat:=F.getD i i
theorem a6S (h:i<F.length):c6N F i=F[i]:=by simp[c6N,List.getD,h]
theorem a8Q (h:F.length≤i):c6N F i=i:=by simp[c6N,List.getD,List.getElem?_eq_none h]
theorem Lea.rts (h:Lea l F) (hq:∀i k (h1:i<F.length) (h2:k<F.length) (h3:i<l.length) (h4:k<l.length),k<i→F[i]=F[k]∨∀z,nm l[i] z→¬nm l[k] z):Rts l (c6N F):=by
 refine⟨fun i=>?_,fun i=>?_,fun {i k z} hi hk h1 h2=>?_,fun i=>?_⟩
 ·rcases Nat.lt_or_ge i F.length with hi|hi
  ·rw[a6S hi];exact h.le i hi
  ·rw[a8Q hi];exact Nat.le_refl _
 ·rcases Nat.lt_or_ge i F.length with hi|hi
  ·rw[a6S hi,a6S (h.lt hi),h.idem i hi (h.lt hi)]
  ·rw[a8Q hi,a8Q hi]
 ·have hi':i<F.length:=by rw[h.len];exact hi
  have hk':k<F.length:=by rw[h.len];exact hk
  rw[a6S hi',a6S hk']
  rcases Nat.lt_trichotomy k i with h3|h3|h3
  ·rcases hq i k hi' hk' hi hk h3 with h4|h4
   ·exact h4
   ·exact absurd h2 (h4 z h1)
  ·subst h3;rfl
  ·rcases hq k i hk' hi' hk hi h3 with h4|h4
   ·exact h4.symm
   ·exact absurd h1 (h4 z h2)
 ·rcases Nat.lt_or_ge i F.length with hi|hi
  ·rw[a6S hi];exact h.sound i hi
  ·rw[a8Q hi];exact .refl i
def a3S (F:List Nat) (hi lo j:Nat):List Nat:=a3Z (F.take j) hi lo++F.drop j
theorem b0Y (F:List Nat) (hi lo j:Nat):(a3S F hi lo j).length=F.length:=by simp[a3S,a3Z];omega
theorem b8z {j:Nat} (F:List Nat) (hi lo:Nat) (h:F.length≤j):a3S F hi lo j=a3Z F hi lo:=by
 rw[a3S,List.take_of_length_le h,List.drop_eq_nil_of_le h,List.append_nil]
theorem c1t {j:Nat} (F:List Nat) (hi lo:Nat) (h:j<F.length) (h2:j<(a3S F hi lo j).length):(a3S F hi lo j)[j]=F[j]:=by
 have e:(a3Z (F.take j) hi lo).length=j:=by rw[a6q,List.length_take];omega
 simp only[a3S]
 rw[List.getElem_append_right oM]
 simp[e]
theorem b8A {j:Nat} {F:List Nat} {hi lo:Nat} (h:j<F.length) (e:F[j]=hi):(a3S F hi lo j).set j lo=a3S F hi lo (j+1):=by
 have e1:(a3Z (F.take j) hi lo).length=j:=by rw[a6q,List.length_take];omega
 have e2:a3Z (F.take (j+1)) hi lo=a3Z (F.take j) hi lo++[lo]:=by rw[←a0e h,a3Z,List.map_append,List.map_cons,if_pos e];rfl
 rw[a3S,List.set_append_right _ _ oM,e1,Nat.sub_self,List.drop_eq_getElem_cons h,a3S,e2,List.append_assoc];rfl
theorem c1u {j:Nat} {F:List Nat} {hi lo:Nat} (h:j<F.length) (e:¬F[j]=hi):a3S F hi lo j=a3S F hi lo (j+1):=by
 have e2:a3Z (F.take (j+1)) hi lo=a3Z (F.take j) hi lo++[F[j]]:=by rw[←a0e h,a3Z,List.map_append,List.map_cons,if_neg e];rfl
 rw[a3S,a3S,e2,List.drop_eq_getElem_cons h,List.append_assoc];rfl
theorem c1w {R:Nat→Nat} (hle:∀i,R i≤i) {n i k:Nat} (h:k≤i):a1U R k i=[]:=by
 unfold a1U;rw[List.filter_eq_nil_iff];intro j hj;have:=List.mem_range.1 hj;have:=hle j
 simp;omega
end
section
variable {F:List Nat} {i n:Nat} {l:List Rep}
theorem a4j (h:i<F.length):(a4Z F)[i]? = some [ci ((F[i]:Nat):Int)]:=by simp[a4Z,h]
theorem b3r (x:Nat):(a4Z F).set i [ci (x:Int)]=a4Z (F.set i x):=by simp[a4Z,List.map_set]
theorem c4M (n:Nat):(List.replicate n [ci 0]).flatten=(a4Z (List.replicate n 0)).flatten:=by simp[a4Z]
def b9u (n i:Nat):List Nat:=List.range i++List.replicate (n-i) 0
theorem c2O (h:i<n):(b9u n i).set i i=b9u n (i+1):=by
 have e:(List.range i).length=i:=by simp
 rw[b9u,List.set_append_right _ _ oM,e,Nat.sub_self,show n-i=(n-(i+1))+1 from oM,List.replicate_succ,b9u,List.range_succ,List.append_assoc];rfl
theorem c5S (h:i≤n):(b9u n i).length=n:=by simp[b9u];omega
theorem c5R (n:Nat):b9u n n=List.range n:=by simp[b9u]
abbrev LsS:=Value×List ByteArray
def vS (n:Nat) (Q:List LsS):List (List Value):=(Q.map fun p=>[p.1])++List.replicate (n-Q.length) [Value.slice none 0 0]
theorem d4j (n:Nat) (Q:List LsS):Uk 1 (vS n Q):=by
 refine Uk.append (fun c hc=>?_) fun c hc=>?_
 ·obtain⟨x,_,rfl⟩:=List.mem_map.1 hc;rfl
 ·rw[List.eq_of_mem_replicate hc];rfl
theorem d2J {Q:List LsS} (h:Q.length≤n):(vS n Q).length=n:=by simp[vS];omega
theorem d0b {Q:List LsS} (hQ:Q.length=i) (h:i<n) (x:LsS):(vS n Q).set i [x.1]=vS n (Q++[x]):=by
 subst hQ;have e:(Q.map fun p:LsS=>[p.1]).length=Q.length:=by simp
 rw[vS,List.set_append_right _ _ oM,e,Nat.sub_self,show n-Q.length=(n-(Q.length+1))+1 from oM,List.replicate_succ]
 simp[vS]
theorem c2X {I:IMap}:∀(Q:List LsS),(∀p∈Q,RdS I p.1 p.2)→Flat I (vS Q.length Q).flatten (Q.map Prod.snd)
 | [],_=>.nil
 |q::Q,h=>by
  have ih:=c2X Q fun p hp=>h p (by simp[hp])
  have e:(vS (q::Q).length (q::Q)).flatten=[q.1]++(vS Q.length Q).flatten:=by simp[vS]
  rw[e];exact .cons (vs:=[q.1]) ⟨_,rfl,h q (by simp)⟩ ih
theorem a6u {l:List ByteArray} {k:Nat} {s z:ByteArray}:z∈l.take k++([s]++l.drop k)↔z∈l∨z=s:=by
 conv=>rhs;rw[←List.take_append_drop k l]
 simp only[List.mem_append,List.mem_singleton]
 constructor
 ·rintro (h|h|h)
  ·exact .inl (.inl h)
  ·exact .inr h
  ·exact .inl (.inr h)
 ·rintro ((h|h)|h)
  ·exact .inl h
  ·exact .inr (.inr h)
  ·exact .inr (.inl h)
theorem c3D {a b:List ByteArray} {i k:Nat} (hi:i<a.length) (hk:k<b.length) (h:a[i]=b[k]):(a.any fun x=>decide (x∈b))=true:=List.any_eq_true.2 ⟨a[i],List.getElem_mem hi,by rw[h];simp⟩
theorem c3C {a b:List ByteArray} (h:∀z∈a,z∉b):(a.any fun x=>decide (x∈b))=false:=List.any_eq_false.2 fun x hx=>by simpa using h x hx
theorem a5d {α:Type} {l:List α} {i:Nat} (h:i<l.length) {z:α}:z∈l.take (i+1)↔z∈l.take i∨z=l[i]:=by
 have e:=a0e h;rw[←e,List.mem_append,List.mem_singleton]
theorem b8D {l:List Evt} {i:Nat} (h:i<l.length) (z:ByteArray):(∃e∈l.take (i+1),z∈a1H e)↔(∃e∈l.take i,z∈a1H e)∨z∈a1H l[i]:=by
 constructor
 ·rintro⟨e,he,hz⟩
  rcases (a5d h).1 he with h|h
  ·exact .inl ⟨e,h,hz⟩
  ·exact .inr (h▸hz)
 ·rintro (⟨e,he,hz⟩|hz)
  ·exact⟨e,(a5d h).2 (.inl he),hz⟩
  ·exact⟨_,(a5d h).2 (.inr rfl),hz⟩
def d4q (l:List Rep) (F:List Nat) (i k:Nat):Prop:=∀(h1:i<F.length) (h2:k<F.length) (h3:i<l.length) (h4:k<l.length),F[i]=F[k]∨∀z,nm l[i] z→¬nm l[k] z
theorem b9W {W:List (List ByteArray)} {i k:Nat} (hW:NmL l W) (h1:i<W.length) (h2:k<W.length) (hi:i<l.length) (hk:k<l.length) (h:(W[i].any fun x=>decide (x∈W[k]))=false):∀z,nm l[i] z→¬nm l[k] z:=fun z h3 h4=>by
 have:=List.any_eq_false.1 h z ((hW.2 i h1 hi z).2 h3);exact this (by simpa using (hW.2 k h2 hk z).2 h4)
theorem b7Y {W:List (List ByteArray)} {i k:Nat} (hW:NmL l W) (h1:i<W.length) (h2:k<W.length) (hi:i<l.length) (hk:k<l.length) (h:(W[i].any fun x=>decide (x∈W[k]))=true):Lnk l i k:=by
 obtain⟨z,hz,hz2⟩:=List.any_eq_true.1 h;exact .one hi hk ((hW.2 i h1 hi z).1 hz) ((hW.2 k h2 hk z).1 (by simpa using hz2))
def ShTo (l:List Rep) (F:List Nat) (i k:Nat):Prop:=∀i' k',(i'<i∨(i'=i∧k'<k))→k'<i'→d4q l F i' k'
theorem ShTo.zero:ShTo l F 0 0:=fun i' k' h _=>oM
theorem ShTo.next {k:Nat} (h:ShTo l F i k) (hs:d4q l F i k):ShTo l F i (k+1):=fun i' k' h1 h2=>by
 by_cases e:i'=i∧k'=k
 ·rw[e.1,e.2];exact hs
 ·exact h i' k' oM h2
theorem ShTo.row (h:ShTo l F i i):ShTo l F (i+1) 0:=fun i' k' h1 h2=>h i' k' oM h2
theorem ShTo.rts (hF:Lea l F) (h:ShTo l F l.length 0):Rts l (c6N F):=hF.rts fun i k h1 h2 h3 h4 h5=>h i k (.inl h3) h5 h1 h2 h3 h4
def NmQ (l:List Rep) (Q:List LsS):Prop:=∀k (h:k<Q.length) (h2:k<l.length),a5t l[k] Q[k].2
theorem NmQ.nil:NmQ l []:=fun k h=>by cases h
theorem NmQ.next {Q:List LsS} {x:LsS} (h:NmQ l Q) (hQ:Q.length=i) (hi:i<l.length) (hn:a5t l[i] x.2):NmQ l (Q++[x]):=fun k h1 h2=>by
 subst hQ
 rcases Nat.lt_or_ge k Q.length with hk|hk
 ·rw[List.getElem_append_left hk];exact h k hk h2
 ·obtain rfl:k=Q.length:=by rw[List.length_append,List.length_singleton]at h1;omega
  rw[List.getElem_append_right (Nat.le_refl _)];simpa using hn
theorem NmQ.nml {Q:List LsS} (h:NmQ l Q) (hl:Q.length=l.length):NmL l (Q.map Prod.snd):=⟨by simp[hl],fun i h1 h2 z=>by
 rw[List.getElem_map]
 exact c1I (h i (by simpa using h1) h2) z⟩
theorem c1i {R:Nat→Nat} (h:c6N F=R) (hi:i<F.length):F[i]=R i:=by rw[←h,a6S hi]
theorem b3W {R:Nat→Nat} {n:Nat} (h:R n=n):a1c R (n+1)=a1c R n++[n]:=by rw[b1n,if_pos h]
theorem b7w {R:Nat→Nat} {n:Nat} (h:¬R n=n):a1c R (n+1)=a1c R n:=by rw[b1n,if_neg h]
theorem c4K {R:Nat→Nat} {n r:Nat} (h:R n=r):a1U R (n+1) r=a1U R n r++[n]:=by rw[a5e,if_pos h]
theorem c8E {R:Nat→Nat} {n r:Nat} (h:¬R n=r):a1U R (n+1) r=a1U R n r:=by rw[a5e,if_neg h]
theorem b7v {R:Nat→Nat} {n:Nat}:(a1c R n).length≤n:=by
 unfold a1c;exact Nat.le_trans (List.length_filter_le _ _) (by simp)
end
end Go.Sx
set_option linter.all false
namespace Go.Sx
open Go
abbrev Row:=Nat×List Bool
section
variable {Q:List Row} {rest:List (List Value)} {k:Nat}
end
section
variable {P:Program} {n:Sz} {E:Ent} {I:IMap} {L:LL} {H:List Res} {K:Act→World→Prop} {e:Nat}
end
section
variable {c:List Kind} {l:List Rep} {R:Nat→Nat} {i j n r:Nat}
theorem b4C (h:j<(a1c R n).length) (h2:j<((a5Q R n).map nI).length):((a5Q R n).map nI)[j]=nI (a1U R n (a1c R n)[j]):=by simp[a5Q]
end
theorem FnV.cast {P:Program} {f:FuncId} {args:Array Value} {I:IMap} {v u:Value} (h:FnV P f args I v) (e:v=u):FnV P f args I u:=e▸h
section
variable {Q:List Row} {M:Nat→Int→Bool} {l:List Rep} {i n g q:Nat} {k:Int} {c:List Kind}
theorem c1x {R:Nat→Nat} {n r:Nat}:(a1U R n r).length≤n:=by
 unfold a1U;exact Nat.le_trans (List.length_filter_le _ _) (by simp)
end
end Go.Sx
namespace Go.Proofs.YtkndpfncklhhlaaGreat
open Go Go.Sx Tryz
set_option linter.all false
set_option maxRecDepth 20000
set_option maxHeartbeats 4000000
theorem b8T (I:IMap) (e:Evt) (hs:SmE e) :
    FnI prog 96 #[.agg e.cells.toArray] I (fun u J=>RdS J u (a1H e)):=by
 refine enter func96 call96 rfl ntmps96 rfl fun w0=>?_;refine go 4 fun g1=>?_
 refine go 8 ?_;refine cV (a8a _ e hs) ?_;refine gC 3 (fun h5 p5=>?_) fun h5 p5=>?_
 ·refine go 8 ?_;exact q_i (by simp only[a1H,show a1t e=false by simpa using h5,if_true];exact RdS.nil')
 ·have hve:a1t e=true:=by simpa using h5
  refine gC 10 (fun h8 p8=>?_) fun h8 p8=>?_
  ·refine go 6 fun v11=>?_
   refine a0d (l:=[e.part]) rfl rfl (.one rfl) fun I11 j11 R11=>?_;refine go 6 ?_;exact q_i (by simp only[a1H,hve,p8,if_true,if_false,Bool.true_eq_false];exact R11)
  ·refine go 8 ?_;refine o_v rfl (c7h rfl rfl) ?_;refine go 4 ?_;refine o_v rfl (c7g rfl rfl) ?_;refine go 2 fun v22=>?_
   refine a0d (l:=[d3l e.part e.into,d3k e.part e.into]) rfl rfl (.cons rfl (.one rfl)) fun I22 j22 R22=>?_;refine go 5 ?_;exact q_i (by simp only[a1H,hve,show e.op=2 from oM,if_true,if_false,Bool.true_eq_false];exact R22)
theorem c5w (I:IMap) (v:Value) (l:List ByteArray) (hv:RdS I v l) (hl:l.length≤1000) (s:ByteArray) :
    FnI prog 97 #[v,.string s] I (fun u J=>∃ns,RdS J u ns∧ns.length≤l.length+1∧∀z,z∈ns↔z∈l∨z=s):=by
 have hv0:=hv;obtain⟨A,c0,rfl,hA,hc,hm⟩:=hv;refine enter func97 call97 rfl ntmps97 rfl fun w0=>?_;refine go 11 ?_;refine a3O (α:=Nat) (Ix:=(fun k=>I)) (Lx:=(fun k=>[(0,.slice A l.length c0),(1,.string s),(5,.int .i64 ((k:Nat):Int))])) (Hx:=(fun k=>[])) (p:=(fun k=>k≤l.length)) ?_ ?_
 ·refine go 1 ?_
  refine a0w (α:=Nat) 0 (fun k=>I)
   (fun k=>[(0,.slice A l.length c0),(1,.string s),(5,.int .i64 ((k:Nat):Int))])
   (fun k=>[])
   (fun k=>k≤l.length)
   (fun k=>l.length-k) (Nat.zero_le _) rfl sb rfl ?_
  intro k hk;refine gS 8 10 (fun h10 p10=>?_) fun h10 p10=>?_
  ·have hlt:k<l.length:=oM;refine go 2 ?_;obtain⟨b13,o13,w13,e13,c13,r13⟩:=RdA.at_ hA (i:=k) oM;obtain rfl:=r13;refine gC 7 (fun h17 p17=>?_) fun h17 p17=>?_
   ·refine go 10 ?_;exact a0s (k+1) oM oM rfl sb rfl
   ·refine go 5 ?_;exact a1s k hk sb rfl rfl
  ·refine go 15 ?_;exact a1s k hk sb rfl rfl
 ·intro k hk;refine gS 8 24 (fun h24 p24=>?_) fun h24 p24=>?_
  ·have hlt:k<l.length:=oM;refine go 2 ?_;obtain⟨b27,o27,w27,e27,c27,r27⟩:=RdA.at_ hA (i:=k) oM;obtain rfl:=r27;refine gC 7 (fun h31 p31=>?_) fun h31 p31=>?_
   ·refine go 9 ?_;exact q_i ⟨l,hv0,Nat.le_succ _,fun z=>⟨.inl,fun h=>h.elim id fun e=>by rw[e,←p31];exact List.getElem_mem hlt⟩⟩
   ·refine go 3 ?_;refine a3h fun hE6 hf6=>?_;refine go 1 ?_;refine dG 1 2 ?_;refine a0F 3 rfl rfl (by kernel_rfl) rfl .slnil rfl (a1y he rfl rfl k rfl oM) ?_;refine dG 5 1 ?_;refine dG 8 2 ?_;refine a0F 10 rfl rfl (by kernel_rfl) rfl .slnil rfl (a0K he rfl rfl k rfl oM) ?_;refine dT2 0 6 ?_ ?_
    ·refine go 1 fun v33=>?_
     refine go 1 ?_;refine dT2 4 6 ?_ ?_
     ·refine a0y ((hv0.take k oM)) rfl he he rfl rfl rfl rfl (by simp;omega) (by simp;omega) rfl fun v37 x37 f37=>?_;refine dH 6 0 ?_;refine go 1 fun v39=>?_
      refine dH 7 0 ?_;refine a0b ?_;refine a0o he he rfl rfl rfl rfl rfl (by simp;omega) (by simp;omega) rfl fun v40=>?_;refine dH 11 0 ?_;refine a0y ((hv0.drop k oM)) rfl he he rfl rfl rfl rfl (by simp;omega) (by simp;omega) rfl fun v44 x44 f44=>?_;refine a0d (l:=l.take k++[s]++l.drop k) rfl (by simp<;>omega) ((((Flat.nil.append f37).append (.one rfl)).append f44)) fun I44 j44 R44=>?_;refine dG 12 1 ?_;refine go 4 ?_;exact q_i ⟨_,R44,by simp;omega,fun z=>by rw[List.append_assoc];exact a6u⟩
     ·refine go 1 fun v39=>?_
      refine dH 4 0 ?_;refine a0b ?_;refine a0y ((hv0.take k oM)) rfl he he rfl rfl rfl rfl (by simp;omega) (by simp;omega) rfl fun v37 x37 f37=>?_;refine dH 7 0 ?_;refine a0b ?_;refine a0b ?_;refine a0o he he rfl rfl rfl rfl rfl (by simp;omega) (by simp;omega) rfl fun v40=>?_;refine dH 11 0 ?_;refine a0y ((hv0.drop k oM)) rfl he he rfl rfl rfl rfl (by simp;omega) (by simp;omega) rfl fun v44 x44 f44=>?_;refine a0d (l:=l.take k++[s]++l.drop k) rfl (by simp<;>omega) ((((Flat.nil.append f37).append (.one rfl)).append f44)) fun I44 j44 R44=>?_;refine dG 12 1 ?_;refine go 4 ?_;exact q_i ⟨_,R44,by simp;omega,fun z=>by rw[List.append_assoc];exact a6u⟩
    ·refine go 1 fun v39=>?_
     refine dH 0 0 ?_;refine go 1 fun v33=>?_
     refine dH 4 0 ?_;refine a0y ((hv0.take k oM)) rfl he he rfl rfl rfl rfl (by simp;omega) (by simp;omega) rfl fun v37 x37 f37=>?_;refine dH 7 0 ?_;refine a0b ?_;refine a0b ?_;refine a0o he he rfl rfl rfl rfl rfl (by simp;omega) (by simp;omega) rfl fun v40=>?_;refine dH 11 0 ?_;refine a0y ((hv0.drop k oM)) rfl he he rfl rfl rfl rfl (by simp;omega) (by simp;omega) rfl fun v44 x44 f44=>?_;refine a0d (l:=l.take k++[s]++l.drop k) rfl (by simp<;>omega) ((((Flat.nil.append f37).append (.one rfl)).append f44)) fun I44 j44 R44=>?_;refine dG 12 1 ?_;refine go 4 ?_;exact q_i ⟨_,R44,by simp;omega,fun z=>by rw[List.append_assoc];exact a6u⟩
  ·refine go 13 ?_;refine a3h fun hE6 hf6=>?_;refine go 1 ?_;refine dG 1 2 ?_;refine a0F 3 rfl rfl (by kernel_rfl) rfl .slnil rfl (a1y he rfl rfl k rfl oM) ?_;refine dG 5 1 ?_;refine dG 8 2 ?_;refine a0F 10 rfl rfl (by kernel_rfl) rfl .slnil rfl (a0K he rfl rfl k rfl oM) ?_;refine dT2 0 6 ?_ ?_
   ·refine go 1 fun v33=>?_
    refine go 1 ?_;refine dT2 4 6 ?_ ?_
    ·refine a0y ((hv0.take k oM)) rfl he he rfl rfl rfl rfl (by simp;omega) (by simp;omega) rfl fun v37 x37 f37=>?_;refine dH 6 0 ?_;refine go 1 fun v39=>?_
     refine dH 7 0 ?_;refine a0b ?_;refine a0o he he rfl rfl rfl rfl rfl (by simp;omega) (by simp;omega) rfl fun v40=>?_;refine dH 11 0 ?_;refine a0y ((hv0.drop k oM)) rfl he he rfl rfl rfl rfl (by simp;omega) (by simp;omega) rfl fun v44 x44 f44=>?_;refine a0d (l:=l.take k++[s]++l.drop k) rfl (by simp<;>omega) ((((Flat.nil.append f37).append (.one rfl)).append f44)) fun I44 j44 R44=>?_;refine dG 12 1 ?_;refine go 4 ?_;exact q_i ⟨_,R44,by simp;omega,fun z=>by rw[List.append_assoc];exact a6u⟩
    ·refine go 1 fun v39=>?_
     refine dH 4 0 ?_;refine a0b ?_;refine a0y ((hv0.take k oM)) rfl he he rfl rfl rfl rfl (by simp;omega) (by simp;omega) rfl fun v37 x37 f37=>?_;refine dH 7 0 ?_;refine a0b ?_;refine a0b ?_;refine a0o he he rfl rfl rfl rfl rfl (by simp;omega) (by simp;omega) rfl fun v40=>?_;refine dH 11 0 ?_;refine a0y ((hv0.drop k oM)) rfl he he rfl rfl rfl rfl (by simp;omega) (by simp;omega) rfl fun v44 x44 f44=>?_;refine a0d (l:=l.take k++[s]++l.drop k) rfl (by simp<;>omega) ((((Flat.nil.append f37).append (.one rfl)).append f44)) fun I44 j44 R44=>?_;refine dG 12 1 ?_;refine go 4 ?_;exact q_i ⟨_,R44,by simp;omega,fun z=>by rw[List.append_assoc];exact a6u⟩
   ·refine go 1 fun v39=>?_
    refine dH 0 0 ?_;refine go 1 fun v33=>?_
    refine dH 4 0 ?_;refine a0y ((hv0.take k oM)) rfl he he rfl rfl rfl rfl (by simp;omega) (by simp;omega) rfl fun v37 x37 f37=>?_;refine dH 7 0 ?_;refine a0b ?_;refine a0b ?_;refine a0o he he rfl rfl rfl rfl rfl (by simp;omega) (by simp;omega) rfl fun v40=>?_;refine dH 11 0 ?_;refine a0y ((hv0.drop k oM)) rfl he he rfl rfl rfl rfl (by simp;omega) (by simp;omega) rfl fun v44 x44 f44=>?_;refine a0d (l:=l.take k++[s]++l.drop k) rfl (by simp<;>omega) ((((Flat.nil.append f37).append (.one rfl)).append f44)) fun I44 j44 R44=>?_;refine dG 12 1 ?_;refine go 4 ?_;exact q_i ⟨_,R44,by simp;omega,fun z=>by rw[List.append_assoc];exact a6u⟩
theorem b1m (I:IMap) (r:Rep) (S:Option Addr) (d:Nat) (hr:RdS I (.slice S r.options.length d) r.options) (hs:∀e∈r.options,SmE e) :
    FnI prog 55 #[.agg (r.cells (.slice S r.options.length d)).toArray] I (fun u J=>∃ns,RdS J u ns∧a5t r ns):=by
 have hSA:RdA I S r.options:=hr.toA;have hl5:=hr.lenLe;have hl4:d≤9223372036854775807:=(by obtain⟨_,_,e,h,h1,h2⟩:=hr;cases e;exact h2);refine enter func55 call55 rfl ntmps55 rfl fun w0=>?_;refine go 4 fun g1=>?_
 refine go 8 ?_;refine cV (a6w _ r S d hr hs) ?_;refine gC 3 (fun h9 p9=>?_) fun h9 p9=>?_
 ·refine go 8 ?_;exact q_i ⟨[],RdS.nil',b1d (by simpa using h9)⟩
 ·have hvr:a0l r=true:=by simpa using h9
  have hvl:=a2K hvr;refine go 14 ?_
  refine a2C ((0:Nat)) (_) ([]) (I) (fun i v3 ns J=>J)
   (fun i v3 ns J=>[(1,.pointer (some ⟨g1,0,none⟩)),(3,v3),(4,.int .i64 ((i:Nat):Int))])
   (fun i v3 ns J=>[.blk g1 79 (r.cells (.slice S r.options.length d))])
   (fun i v3 ns J=>i≤r.options.length∧ILe I J∧RdS J v3 ns∧ns.length≤2 * i∧∀z,z∈ns↔∃e∈r.options.take i,z∈a1H e)
   (fun i v3 ns J=>r.options.length-i) ⟨Nat.zero_le _,ILe.refl _,RdS.nil',Nat.le_refl _,fun z=>by simp⟩ rfl sb rfl ?_
  intro i v3 ns J ⟨hi,hJ,hv3,hn3,hns⟩;have hSA:=hSA.le hJ;refine gC 10 (fun h14 p14=>?_) fun h14 p14=>?_
  ·have hlt:i<r.options.length:=oM;have hn2:=(b1c (a3r hvr _ (List.getElem_mem hlt))).2;refine go 9 ?_;obtain⟨b20,o20,w20,e20,c20,r20⟩:=RdA.at_ hSA (i:=i) hlt;obtain rfl:=r20;refine go 3 ?_;refine a0D (b8T _ r.options[i] (hs _ (List.getElem_mem hlt))) rfl rfl fun v22 I22 j22 q22=>?_
   try have hSA:=hSA.le j22
   try have hv3:=hv3.le j22
   obtain⟨NA,nc,rfl,hNA,_,_⟩:=id q22;refine go 9 ?_
   refine a2C ((0:Nat)) (v3) (ns) (I22) (fun j v6 ns2 J2=>J2)
    (fun j v6 ns2 J2=>[(1,.pointer (some ⟨g1,0,none⟩)),(3,v6),(4,.int .i64 ((i:Nat):Int)),(5,.slice NA (a1H r.options[i]).length nc),(6,.int .i64 ((j:Nat):Int))])
    (fun j v6 ns2 J2=>[.blk g1 79 (r.cells (.slice S r.options.length d))])
    (fun j v6 ns2 J2=>j≤(a1H r.options[i]).length∧ILe I22 J2∧RdS J2 v6 ns2∧ns2.length≤2 * i+j∧∀z,z∈ns2↔(∃e∈r.options.take i,z∈a1H e)∨z∈(a1H r.options[i]).take j)
    (fun j v6 ns2 J2=>(a1H r.options[i]).length-j) ⟨Nat.zero_le _,ILe.refl _,hv3,hn3,fun z=>by simp[hns z]⟩ rfl sb rfl ?_
   intro j v6 ns2 J2 ⟨hj,hJ2,hv6,hn6,hns2⟩;have hNA:=hNA.le hJ2;refine gC 9 (fun h26 p26=>?_) fun h26 p26=>?_
   ·have hlj:j<(a1H r.options[i]).length:=oM;refine go 8 ?_;obtain⟨b32,o32,w32,e32,c32,r32⟩:=RdA.at_ hNA (i:=j) oM;obtain rfl:=r32;refine go 3 ?_;refine a0D (c5w _ v6 ns2 hv6 oM (a1H r.options[i])[j]) rfl rfl fun v34 I34 j34 q34=>?_;obtain⟨ns3,q34,hl3,hns3⟩:=q34;refine go 10 ?_;exact a1k (j+1) (_) (ns3) (_) ⟨oM,hJ2.trans j34,q34,oM,fun z=>(hns3 z).trans (by rw[hns2 z,a5d hlj,or_assoc])⟩ oM rfl sb rfl
   ·obtain rfl:j=(a1H r.options[i]).length:=oM;rw[List.take_length]at hns2
    refine go 12 ?_;exact a1k (i+1) (v6) (ns2) (_) ⟨oM,hJ.trans (j22.trans hJ2),hv6,oM,fun z=>(hns2 z).trans (b8D hlt z).symm⟩ oM rfl sb rfl
  ·obtain rfl:i=r.options.length:=oM;rw[List.take_length]at hns
   refine go 13 ?_;exact q_i ⟨ns,hv3,fun z=>(hns z).trans ⟨fun h=>⟨hvr,h⟩,fun h=>h.2⟩,oM⟩
theorem b0f (I:IMap) (v:Value) (l:List ByteArray) (hv:RdS I v l) (w:Value) (m:List ByteArray) (hw:RdS I w m) :
    FnV prog 54 #[v,w] I (.bool (l.any fun x=>decide (x∈m))):=by
 have hv0:=hv;obtain⟨A,c0,rfl,hA,hc,hm⟩:=hv;obtain⟨B,c1,rfl,hB,hc1,hm1⟩:=hw;refine enter func54 call54 rfl ntmps54 rfl fun w0=>?_;refine go 12 ?_
 refine a0w (α:=Nat) 0 (fun i=>I)
  (fun i=>[(0,.slice A l.length c0),(1,.slice B m.length c1),(5,.int .i64 ((i:Nat):Int))])
  (fun i=>[])
  (fun i=>i≤l.length∧∀x∈l.take i,x∉m)
  (fun i=>l.length-i) ⟨Nat.zero_le _,by simp⟩ rfl sb rfl ?_
 intro i ⟨hi,hn⟩;refine gC 9 (fun h10 p10=>?_) fun h10 p10=>?_
 ·have hlt:i<l.length:=oM;refine go 10 ?_
  refine a0w (α:=Nat) 0 (fun k=>I)
   (fun k=>[(0,.slice A l.length c0),(1,.slice B m.length c1),(5,.int .i64 ((i:Nat):Int)),(6,.int .i64 ((k:Nat):Int))])
   (fun k=>[])
   (fun k=>k≤m.length∧l[i]∉m.take k)
   (fun k=>m.length-k) ⟨Nat.zero_le _,by simp⟩ rfl sb rfl ?_
  intro k ⟨hk,hq⟩;refine gC 9 (fun h16 p16=>?_) fun h16 p16=>?_
  ·have hlk:k<m.length:=oM;refine go 6 ?_;refine dG 0 2 ?_;obtain⟨b21,o21,w21,e21,c21,r21⟩:=RdA.at_ hA (i:=i) oM;obtain rfl:=r21;refine dG 2 4 ?_;obtain⟨b25,o25,w25,e25,c25,r25⟩:=RdA.at_ hB (i:=k) oM;obtain rfl:=r25;refine dG 6 3 ?_;refine gC 2 (fun h27 p27=>?_) fun h27 p27=>?_
   ·refine go 16 ?_;exact q_v (congrArg Value.bool (c3D hlt hlk p27).symm)
   ·refine go 9 ?_;exact a0s (k+1) ⟨oM,fun h=>((a5d hlk).1 h).elim hq p27⟩ oM rfl sb rfl
  ·obtain rfl:k=m.length:=oM;rw[List.take_length]at hq
   refine go 12 ?_
   exact a0s (i+1) ⟨oM,fun x hx=>by
     rcases (a5d hlt).1 hx with h|h
     · exact hn x h
     · rw[h];exact hq⟩ oM rfl sb rfl
 ·obtain rfl:i=l.length:=oM;rw[List.take_length]at hn
  refine go 12 ?_;exact q_v (congrArg Value.bool (c3C hn).symm)
theorem b8X (I:IMap) (v:Value) (l:List Rep) (hv:RdS I v l) (hl:l.length≤1000000) (hsl:∀r∈l,∀e∈r.options,SmE e) (R:Nat→Nat) (hRt:Rts l R) :
    FnI prog 53 #[v] I (fun u J=>RdS J u ((a5Q R l.length).map nI)):=by
 have hv0:=hv;obtain⟨A,c0,rfl,hA,hc,hm⟩:=hv;refine enter func53 call53 rfl ntmps53 rfl fun w0=>?_;refine go 10 ?_;refine a4w he he rfl rfl rfl oM oM rfl fun g18=>?_;refine a2x (a4Z (b9u l.length 0)).flatten (by rw[b9u,List.range_zero,List.nil_append,Nat.sub_zero];exact c4M _) ?_;refine go 8 ?_;refine a4w he he rfl rfl rfl oM oM rfl fun g21=>?_;refine go 10 ?_
 refine a2B ((0:Nat)) ([]) (I) (fun i Q J=>J)
  (fun i Q J=>[(0,.slice A l.length c0),(3,.slice (some ⟨g18,0,none⟩) l.length l.length),(4,.slice (some ⟨g21,0,none⟩) l.length l.length),(5,.int .i64 ((i:Nat):Int))])
  (fun i Q J=>[.blk g21 117 (vS l.length Q).flatten,.blk g18 3 (a4Z (b9u l.length i)).flatten])
  (fun i Q J=>i≤l.length∧ILe I J∧List.length Q=i∧(∀p∈Q,RdS J (p:LsS).1 p.2)∧NmQ l Q)
  (fun i Q J=>l.length-i) ⟨Nat.zero_le _,ILe.refl _,rfl,fun p hp=>(by cases hp),NmQ.nil⟩ rfl sb rfl ?_
 intro i Q J ⟨hi,hJ,hQi,hQr,hQn⟩;have hv0:=hv0.le hJ;have hA:=hA.le hJ;refine gC 9 (fun h25 p25=>?_) fun h25 p25=>?_
 ·have hlt:i<l.length:=oM;refine go 9 ?_;refine o_v rfl (a0i he rfl rfl rfl (i) oM oM) ?_;refine go 1 ?_;refine a0b ?_;refine a1Q _ (i) (a2b _) he rfl rfl rfl rfl rfl oM (by rw[a3L,c5S hi];omega) ?_;refine a2x (a4Z (b9u l.length (i+1))).flatten (by rw[b3r,c2O hlt]) ?_;refine go 7 ?_;obtain⟨b36,o36,w36,e36,c36,r36⟩:=RdA.at_ hA (i:=i) oM;obtain⟨q36,rfl,S36,d36,rfl,hS36,hd36,hm36⟩:=r36;refine go 3 ?_;refine a0D (b1m _ l[i] S36 d36 ⟨_,_,rfl,hS36,hd36,hm36⟩ (hsl _ (List.getElem_mem hlt))) rfl rfl fun v38 I38 j38 q38=>?_
  try have hv0:=hv0.le j38
  try have hA:=hA.le j38
  obtain⟨ns,q38,hno⟩:=q38;obtain⟨NA,nc,rfl,_,_,_⟩:=id q38;refine o_v rfl (a0i he rfl rfl rfl (i) oM oM) ?_;refine go 1 ?_;refine a0b ?_;refine a1Q _ (i) (d4j _ _) he rfl rfl rfl rfl rfl oM (by rw[d2J oM];omega) ?_;refine a2x (vS l.length (Q++[(.slice NA ns.length nc,ns)])).flatten (by rw[←d0b hQi hlt (.slice NA ns.length nc,ns)]) ?_;refine go 9 ?_;exact a1r (i+1) ((Q++[(.slice NA ns.length nc,ns)])) (_) ⟨oM,hJ.trans j38,by simp[hQi],fun p hp=>(List.mem_append.1 hp).elim (fun h=>(hQr p h).le j38) (fun h=>by rw[List.mem_singleton.1 h];exact q38),hQn.next hQi hlt hno⟩ oM rfl sb rfl
 ·obtain rfl:i=l.length:=oM;rw[c5R];have hN:=hQn.nml hQi;refine a1Z fun Ig21 jg21 cg21=>?_
  try have hv0:=hv0.le jg21
  try have hA:=hA.le jg21
  rw[←hQi]at cg21
  obtain⟨W,hWq⟩:∃W,W=Q.map Prod.snd:=⟨_,rfl⟩;rw[←hWq]at hN
  have hW:RdA Ig21 (some ⟨g21,0,none⟩) W:=by rw[hWq];exact Flat.rda (c2X Q fun p hp=>(hQr p hp).le jg21) cg21
  have hWl:W.length=l.length:=by rw[hWq,List.length_map,hQi]
  refine go 12 ?_
  refine a1i (true) ((List.range l.length)) (fun b F=>Ig21)
   (fun b F=>[(0,.slice A l.length c0),(3,.slice (some ⟨g18,0,none⟩) l.length l.length),(4,.slice (some ⟨g21,0,none⟩) l.length l.length),(6,.bool b)])
   (fun b F=>[.blk g18 3 (a4Z F).flatten])
   (fun b F=>Lea l F∧(b=false→ShTo l F l.length 0))
   (fun b F=>if b=true then F.sum+1 else 0) ⟨c1j l,fun h=>by cases h⟩ rfl sb rfl ?_
  intro b F ⟨hF,hb⟩;have hFl:=hF.len;refine gC 6 (fun h40 p40=>?_) fun h40 p40=>?_
  ·refine go 14 ?_
   refine a2B ((0:Nat)) (false) (F) (fun i b2 G=>Ig21)
    (fun i b2 G=>[(0,.slice A l.length c0),(3,.slice (some ⟨g18,0,none⟩) l.length l.length),(4,.slice (some ⟨g21,0,none⟩) l.length l.length),(6,.bool b2),(7,.int .i64 ((i:Nat):Int))])
    (fun i b2 G=>[.blk g18 3 (a4Z G).flatten])
    (fun i b2 G=>i≤l.length∧Lea l G∧(b2=false→G=F∧ShTo l G i 0)∧(b2=true→G.sum<F.sum))
    (fun i b2 G=>l.length-i) ⟨Nat.zero_le _,hF,fun _=>⟨rfl,ShTo.zero⟩,fun h=>by cases h⟩ rfl sb rfl ?_
   intro i b2 G ⟨hi,hG,hb2,hs2⟩;have hGl:=hG.len;refine gC 9 (fun h44 p44=>?_) fun h44 p44=>?_
   ·have hlt:i<l.length:=oM;refine go 10 ?_
    refine a2B ((0:Nat)) (b2) (G) (fun k b3 G3=>Ig21)
     (fun k b3 G3=>[(0,.slice A l.length c0),(3,.slice (some ⟨g18,0,none⟩) l.length l.length),(4,.slice (some ⟨g21,0,none⟩) l.length l.length),(6,.bool b3),(7,.int .i64 ((i:Nat):Int)),(8,.int .i64 ((k:Nat):Int))])
     (fun k b3 G3=>[.blk g18 3 (a4Z G3).flatten])
     (fun k b3 G3=>k≤i∧Lea l G3∧(b3=false→G3=F∧ShTo l G3 i k)∧(b3=true→G3.sum<F.sum))
     (fun k b3 G3=>i-k) ⟨Nat.zero_le _,hG,hb2,hs2⟩ rfl sb rfl ?_
    intro k b3 G3 ⟨hk,hG3,hb3,hs3⟩;have hGl3:=hG3.len;refine gC 8 (fun h49 p49=>?_) fun h49 p49=>?_
    ·have hlk:k<i:=oM;have hiG:i<G3.length:=oM;have hkG:k<G3.length:=oM;refine go 6 ?_;refine dG 0 2 ?_;refine a0F 2 rfl rfl (by kernel_rfl) rfl (.refl _) rfl (a0i he rfl rfl rfl (i) oM oM) ?_;refine a0F 3 rfl rfl (by kernel_rfl) rfl (.refl _) rfl (a3Y m0 (a2b _) he rfl (i) oM (a4j hiG)) ?_;refine dG 4 2 ?_;refine a0F 6 rfl rfl (by kernel_rfl) rfl (.refl _) rfl (a0i he rfl rfl rfl (k) oM oM) ?_;refine a0F 7 rfl rfl (by kernel_rfl) rfl (.refl _) rfl (a3Y m0 (a2b _) he rfl (k) oM (a4j hkG)) ?_;refine dG 8 2 ?_;refine gS 0 61 (fun h61 p61=>?_) fun h61 p61=>?_
     ·refine dG 10 2 ?_;obtain⟨b64,o64,w64,e64,c64,r64⟩:=RdA.at_ hW (i:=i) oM;obtain⟨q64,rfl,S64,d64,rfl,hS64,hd64,hm64⟩:=r64;refine dG 12 4 ?_;obtain⟨b68,o68,w68,e68,c68,r68⟩:=RdA.at_ hW (i:=k) oM;obtain⟨q68,rfl,S68,d68,rfl,hS68,hd68,hm68⟩:=r68;refine dH 16 2 ?_;refine a0z rfl rfl h61 (a0x (b0f _ _ W[i] ⟨_,_,rfl,hS64,hd64,hm64⟩ _ W[k] ⟨_,_,rfl,hS68,hd68,hm68⟩) rfl rfl ?_);refine dG 19 1 ?_;refine gC 2 (fun h71 p71=>?_) fun h71 p71=>?_
      ·have hM:=hG3.meet hiG hkG (fun h=>p61 (by rw[h])) (b7Y hN oM oM hlt oM h71);refine go 2 ?_;refine dG 0 2 ?_;refine a0F 2 rfl rfl (by kernel_rfl) rfl (.refl _) rfl (a0i he rfl rfl rfl (i) oM oM) ?_;refine a0F 3 rfl rfl (by kernel_rfl) rfl (.refl _) rfl (a3Y m0 (a2b _) he rfl (i) oM (a4j hiG)) ?_;refine dG 4 2 ?_;refine a0F 6 rfl rfl (by kernel_rfl) rfl (.refl _) rfl (a0i he rfl rfl rfl (k) oM oM) ?_;refine a0F 7 rfl rfl (by kernel_rfl) rfl (.refl _) rfl (a3Y m0 (a2b _) he rfl (k) oM (a4j hkG)) ?_;refine a0F 8 rfl rfl (by kernel_rfl) rfl (.refl _) rfl (OV.cast (u:=.int .i64 ((min G3[i] G3[k]:Nat):Int)) (d2L rfl rfl) (congrArg (Value.int .i64) (by split<;>omega))) ?_;refine dG 9 1 ?_;refine go 4 ?_;refine dG 0 2 ?_;refine a0F 2 rfl rfl (by kernel_rfl) rfl (.refl _) rfl (a0i he rfl rfl rfl (i) oM oM) ?_;refine a0F 3 rfl rfl (by kernel_rfl) rfl (.refl _) rfl (a3Y m0 (a2b _) he rfl (i) oM (a4j hiG)) ?_;refine dG 4 2 ?_;refine a0F 6 rfl rfl (by kernel_rfl) rfl (.refl _) rfl (a0i he rfl rfl rfl (k) oM oM) ?_;refine a0F 7 rfl rfl (by kernel_rfl) rfl (.refl _) rfl (a3Y m0 (a2b _) he rfl (k) oM (a4j hkG)) ?_;refine a0F 8 rfl rfl (by kernel_rfl) rfl (.refl _) rfl (OV.cast (u:=.int .i64 ((max G3[i] G3[k]:Nat):Int)) (d0i rfl rfl) (congrArg (Value.int .i64) (by split<;>omega))) ?_;refine dG 9 1 ?_;refine go 9 ?_
       refine a0w (α:=Nat) 0 (fun j=>Ig21)
        (fun j=>[(0,.slice A l.length c0),(3,.slice (some ⟨g18,0,none⟩) l.length l.length),(4,.slice (some ⟨g21,0,none⟩) l.length l.length),(6,.bool b3),(7,.int .i64 ((i:Nat):Int)),(8,.int .i64 ((k:Nat):Int)),(9,.int .i64 (((min G3[i] G3[k]):Nat):Int)),(10,.int .i64 (((max G3[i] G3[k]):Nat):Int)),(11,.int .i64 ((j:Nat):Int))])
        (fun j=>[.blk g18 3 (a4Z (a3S G3 (max G3[i] G3[k]) (min G3[i] G3[k]) j)).flatten])
        (fun j=>j≤l.length)
        (fun j=>l.length-j) (Nat.zero_le _) rfl sb rfl ?_
       intro j hj;refine gC 9 (fun h93 p93=>?_) fun h93 p93=>?_
       ·have hlj:j<l.length:=oM;have hjG:j<G3.length:=oM;refine go 8 ?_;refine o_v rfl (a0i he rfl rfl rfl (j) oM oM) ?_;refine o_v rfl (OV.cast (u:=.int .i64 ((G3[j]:Nat):Int)) (a3Y m0 (a2b _) he rfl (j) oM (a4j (by rw[b0Y];omega))) (congrArg (fun z:Nat=>Value.int .i64 (z:Int)) (c1t _ _ _ hjG _))) ?_;refine gC 4 (fun h101 p101=>?_) fun h101 p101=>?_
        ·refine go 4 ?_;refine o_v rfl (a0i he rfl rfl rfl (j) oM oM) ?_;refine go 1 ?_;refine a1Q _ (j) (a2b _) he rfl rfl rfl rfl rfl oM (by rw[a3L,b0Y];omega) ?_;refine a2x (a4Z (a3S G3 (max G3[i] G3[k]) (min G3[i] G3[k]) (j+1))).flatten (by rw[b3r,b8A hjG oM]) ?_;refine go 9 ?_;exact a0s (j+1) oM oM rfl sb rfl
        ·refine go 9 ?_;exact a0s (j+1) oM oM rfl sb (by rw[c1u hjG oM])
       ·obtain rfl:j=l.length:=oM;rw[b8z _ _ _ oM];refine go 16 ?_;exact a1r (k+1) (true) ((a3Z G3 (max G3[i] G3[k]) (min G3[i] G3[k]))) ⟨oM,hM.1,fun h=>(by cases h),fun _=>by have:=hM.2;cases b3<;>simp_all<;>omega⟩ oM rfl sb rfl
      ·refine go 9 ?_;exact a1r (k+1) (b3) (G3) ⟨oM,hG3,fun h=>⟨(hb3 h).1,(hb3 h).2.next fun _ _ h3 h4=>.inr (b9W hN _ _ h3 h4 (by simpa using h71))⟩,hs3⟩ oM rfl sb rfl
     ·refine dG 10 10 ?_;refine go 12 ?_;exact a1r (k+1) (b3) (G3) ⟨oM,hG3,fun h=>⟨(hb3 h).1,(hb3 h).2.next fun _ _ _ _=>.inl oM⟩,hs3⟩ oM rfl sb rfl
    ·obtain rfl:i=k:=oM;refine go 12 ?_;exact a1r (i+1) (b3) (G3) ⟨oM,hG3,fun h=>⟨(hb3 h).1,(hb3 h).2.row⟩,hs3⟩ oM rfl sb rfl
   ·obtain rfl:i=l.length:=oM;refine go 6 ?_;exact a0t (b2) (G) ⟨hG,fun h=>(hb2 h).2⟩ (by subst p40;cases b2<;>simp_all<;>omega) rfl sb rfl
  ·have hR:c6N F=R:=(ShTo.rts hF (hb (by simpa using p40))).uniq hRt;refine go 7 ?_;refine a0G 90 1 ?_;refine go 10 ?_
   refine a2C ((0:Nat)) (_) ([]) (Ig21) (fun i v12 xs J=>J)
    (fun i v12 xs J=>[(0,.slice A l.length c0),(3,.slice (some ⟨g18,0,none⟩) l.length l.length),(12,v12),(13,.int .i64 ((i:Nat):Int))])
    (fun i v12 xs J=>[.row v12 90 1 (a1c R i).length xs,.blk g18 3 (a4Z F).flatten])
    (fun i v12 xs J=>i≤l.length∧ILe Ig21 J∧Flat J xs (((a1c R i).map (a1U R l.length)).map nI))
    (fun i v12 xs J=>l.length-i) ⟨Nat.zero_le _,ILe.refl _,.nil⟩ rfl sb rfl ?_
   intro i v12 xs J ⟨hi,hJ,hF5⟩;have hrl:=b7v (R:=R) (n:=i);refine gC 9 (fun h109 p109=>?_) fun h109 p109=>?_
   ·have hlt:i<l.length:=oM;have hiG:i<F.length:=oM;have hFR:=c1i hR hiG;refine go 9 ?_;refine o_v rfl (a0i he rfl rfl rfl (i) oM oM) ?_;refine o_v rfl (a3Y m1 (a2b _) he rfl (i) oM (a4j hiG)) ?_;refine gC 4 (fun h117 p117=>?_) fun h117 p117=>?_
    ·have hne:¬R i=i:=oM;refine go 10 ?_;exact a1k (i+1) (_) (_) (_) ⟨oM,hJ,by rw[b7w hne];exact hF5⟩ oM rfl sb (by rw[b7w hne])
    ·have heq:R i=i:=oM;refine go 4 ?_;refine a0G 3 1 ?_;refine go 11 ?_
     refine a2B (i) (_) ([]) (fun k v14 M=>J)
      (fun k v14 M=>[(0,.slice A l.length c0),(3,.slice (some ⟨g18,0,none⟩) l.length l.length),(12,v12),(13,.int .i64 ((i:Nat):Int)),(14,v14),(15,.int .i64 ((k:Nat):Int))])
      (fun k v14 M=>[.row v14 3 1 (List.length M) (a4Z M).flatten,.row v12 90 1 (a1c R i).length xs,.blk g18 3 (a4Z F).flatten])
      (fun k v14 M=>i≤k∧k≤l.length∧M=a1U R k i)
      (fun k v14 M=>l.length-k) ⟨Nat.le_refl _,hi,(c1w (n:=0) hRt.le (Nat.le_refl _)).symm⟩ rfl sb rfl ?_
     intro k v14 M ⟨hik,hkl,hM⟩;have hml:M.length≤k:=by rw[hM];exact c1x
     refine gC 9 (fun h122 p122=>?_) fun h122 p122=>?_
     ·have hlk:k<l.length:=oM;have hkG:k<F.length:=oM;have hFRk:=c1i hR hkG;refine go 8 ?_;refine o_v rfl (a0i he rfl rfl rfl (k) oM oM) ?_;refine o_v rfl (a3Y m2 (a2b _) he rfl (k) oM (a4j hkG)) ?_;refine gC 4 (fun h130 p130=>?_) fun h130 p130=>?_
      ·have hyes:R k=i:=oM;refine go 5 fun v133=>?_
       refine go 1 ?_;refine a0b ?_;refine a0o he he rfl rfl rfl rfl rfl oM oM rfl fun v134=>?_;refine go 10 ?_;refine a0b ?_;refine a0a ?_;exact a1r (k+1) (_) (M++[k]) ⟨oM,oM,by rw[c4K hyes,hM]⟩ oM rfl sb (by rw[List.length_append,←b3s];rfl)
      ·have hno:¬R k=i:=oM;refine go 9 ?_;exact a1r (k+1) (_) (M) ⟨oM,oM,by rw[c8E hno];exact hM⟩ oM rfl sb rfl
     ·obtain rfl:k=l.length:=oM;refine go 7 ?_;refine a0d (l:=(nI M)) rfl (by rw[a4J]) (c1E M) fun Ip jp Rp=>?_;refine go 2 ?_;rw[hM]at Rp
      obtain⟨A14,c14,rfl,_,_⟩:=id Rp;refine go 1 fun v137=>?_
      refine go 1 ?_;refine a0b ?_;refine a0o he he rfl rfl rfl rfl rfl oM oM rfl fun v138=>?_;refine go 10 ?_;refine a0b ?_;refine a0a ?_;exact a1k (i+1) (_) (_) (_) ⟨oM,hJ.trans jp,by rw[b3W heq,List.map_append,List.map_append];exact (hF5.le jp).append (.one ⟨_,rfl,Rp⟩)⟩ oM rfl sb (by rw[b3W heq,List.length_append];rfl)
   ·obtain rfl:i=l.length:=oM;refine go 13 ?_;refine a0b ?_;refine a0a ?_;refine a0d (l:=(a5Q R l.length).map nI) rfl (by rw[List.length_map,b9X]) hF5 fun I9 j9 R9=>?_;exact q_i R9
end Go.Proofs.YtkndpfncklhhlaaGreat
set_option linter.all false
namespace Go.Sx
open Go
def a9M (P:Program) (t:TypeId) (name:String):Option FuncId:=
 match P.info? t,P.underlying t with
 |some i,some (.struct _)=>match i.methods.find? (·.name == name) with
  |some m=>match m.path.toList,m.func with
   | [],some (f,false)=>some f
   |_,_=>none
  |none=>none
 |_,_=>none
theorem b1a {P:Program} {t:TypeId} {name:String} {f:FuncId} (h:a9M P t name=some f):∃i fs m,P.info? t=some i∧P.underlying t=some (.struct fs)∧i.methods.find? (·.name == name)=some m∧m.path.toList=[]∧m.func=some (f,false):=by
 unfold a9M at h
 split at h
 ·rename_i i fs h1 h2
  split at h
  ·rename_i m h3
   split at h
   ·rename_i h4 h5
    cases h
    exact⟨i,fs,m,h1,h2,h3,h4,h5⟩
   ·cases h
  ·cases h
 ·cases h
theorem b9e {P:Program} {t:TypeId} {name:String} {f:FuncId} (h:a9M P t name=some f) (v:Value) (w:World) (k:Nat):(method (k+1) t v name).run P w = .ok (f,v) w:=by
 obtain⟨i,fs,m,h1,h2,h3,h4,h5⟩:=b1a h;have hti:(typeInfo t).run P w = .ok i w:=by simp[typeInfo,h1]
 simp only[method,Sem.run_bind,hti,Result.andThen_ok,h3,h4,follow,Sem.run_pure,h5,receiverAt,run_underlying h2,Place.get]
theorem b3Z {P:Program} {t:TypeId} {name:String} {f:FuncId} (h:a9M P t name=some f) (v:Value) (w:World) (k:Nat):(nilAhead (k+1) t v name).run P w = .ok (some false) w:=by
 obtain⟨i,fs,m,h1,h2,h3,h4,h5⟩:=b1a h;have hti:(typeInfo t).run P w = .ok i w:=by simp[typeInfo,h1]
 simp only[nilAhead,Sem.run_bind,hti,Result.andThen_ok,h3,h4,followBlind,Sem.run_pure,h5,run_underlying h2]
section
variable {P:Program} {n:Sz} {E:Ent} {I:IMap} {L:LL} {H:List Res} {Q:Exit→Act→World→Prop} {ops:Array Oper} {K:Act→World→Prop}
variable {d ty tx tyy:Nat} {pos:String} {af:Array Edge} {x y:Operand}
theorem b9d {a:Act} {w:World} {as_:List Operand} {ats:Array TypeId} {t:TypeId} {name:String} {f:FuncId} {v:Value} {vs:List Value} (s:St n a L) (hm:a9M P t name=some f) (hx:ev L x=some (.iface t v)) (hv:evs L as_=some vs) (o:Oper)
  (ho:o.op = .call { callee:=.invoke x name,args:=as_.toArray,argTypes:=ats }):(execOp a.eval o).run P w=(callFunc f (v::vs).toArray).run P w:=by
 have ha:as_.toArray.map a.eval=vs.toArray:=by rw[←a6m s as_ vs hv];simp
 have hd:∃q,P.types.size+Made.depth=q+1:=⟨P.types.size+99,rfl⟩;obtain⟨q,hq⟩:=hd;have e1:(#[Value.iface t v]++vs.toArray)[0]? = some (Value.iface t v):=by simp
 have e2:(#[Value.iface t v]++vs.toArray).extract 1 (#[Value.iface t v]++vs.toArray).size=vs.toArray:=by simp[List.extract]
 simp only[execOp,ho,resolve,ha,s.ev hx,Sem.run_bind,Sem.run_pure,Result.andThen_ok,invoke,e1,e2,callMethod,run_program,hq,b9e hm]
 simp
theorem b6O {u:Value} {as_:List Operand} {ats:Array TypeId} {t:TypeId} {name:String} {f:FuncId} {v:Value} {vs:List Value} (hm:a9M P t name=some f) (hc:FnV P f (v::vs).toArray I u) (hx:ev L x=some (.iface t v)) (hv:evs L as_=some vs) (hd:Nat.blt d n.sz=true)
  (k:SX n E I ((d,u)::L) H K):SX n E I L H (one P ops Q ⟨some d,.call { callee:=.invoke x name,args:=as_.toArray,argTypes:=ats },ty,pos,af,none⟩ K):=
 b5f (Hc:=[]) hc.go (fun a w s=>b9d s hm hx hv _ rfl) hd fun v I' H' hI hp=>by obtain⟨rfl,rfl,rfl⟩:=hp;exact k
theorem b4j {t:TypeId} {name:String} {f:FuncId} {v:Value} {cs:Array Value} (hm:a9M P t name=some f) (hx:ev L x=some (.func (.method name) #[.iface t v] cs)):OV P n E I L H ⟨some d,.nilCheck x,ty,pos,af,none⟩ (.func (.method name) #[.iface t v] cs):=
 (fun a w s _=>by
  have hd:∃q,P.types.size+Made.depth=q+1:=⟨P.types.size+99,rfl⟩;obtain⟨q,hq⟩:=hd
  simp only[execOp,s.ev hx,Sem.run_bind,run_program,Result.andThen_ok,List.getElem?_toArray,List.getElem?_cons_zero,hq,b3Z hm,bne_self_eq_false,Bool.false_eq_true,if_false,Sem.run_pure])
theorem d0e {v:Value} {tt:Nat} (ht:b0j P tt=true) (hx:ev L x=some v):OV P n E I L H ⟨some d,.makeInterface tt x,ty,pos,af,none⟩ (.iface tt v):=
 (fun a w s _=>by
  unfold b0j at ht
  split at ht
  ·rename_i fs h1;simp[execOp,s.ev hx,Instr.makeInterface,run_underlying h1]
  ·cases ht)
theorem d0j {i:Int} (hx:ev L x=some (.int .i64 i)) (hb:I64 (-i)):OV P n E I L H ⟨some d,.unOp .neg tx x,ty,pos,af,none⟩ (.int .i64 (-i)):=
 (fun a w s _=>by
  have e:0-i = -i:=oM
  simp[execOp,s.ev hx,Op.unary,Op.intArith,e];exact IntWalk.i64_in _ ⟨hb.1,hb.2⟩)
theorem d0k {i j:Int} (hx:ev L x=some (.int .i64 i)) (hy:ev L y=some (.int .i64 j)) (hj:j≠0) (hb:I64 (i.tdiv j)):OV P n E I L H ⟨some d,.binOp .quo tx x y tyy,ty,pos,af,none⟩ (.int .i64 (i.tdiv j)):=
 (fun a w s _=>by
  simp only[execOp,s.ev hx,s.ev hy,eqGuard_at_int,binOp_quo,Op.intDiv,Sem.run_bind,if_neg hj]
  simp;exact IntWalk.i64_in _ ⟨hb.1,hb.2⟩)
theorem d2O {i j:Int} (hx:ev L x=some (.int .i64 i)) (hy:ev L y=some (.int .i64 j)) (hj:j≠0):OV P n E I L H ⟨some d,.binOp .rem tx x y tyy,ty,pos,af,none⟩ (.int .i64 (i.tmod j)):=
 (fun a w s _=>by
  simp only[execOp,s.ev hx,s.ev hy,eqGuard_at_int,binOp_rem,Op.intDiv,Sem.run_bind,if_neg hj]
  simp)
theorem d0f {i j k l:Int} {ats:Array TypeId} {z z':Operand} (hx:ev L x=some (.int .i64 i)) (hy:ev L y=some (.int .i64 j)) (hz:ev L z=some (.int .i64 k)) (hz':ev L z'=some (.int .i64 l)):OV P n E I L H ⟨some d,.call { callee:=.builtin .max,args:=#[x,y,z,z'],argTypes:=ats },ty,pos,af,none⟩ (.int .i64 (max (max (max i j) k) l)):=fun a w st _=>by
 have e:∀p q:Int,(if q>p then q else p)=max p q:=fun p q=>oM
 simp[execOp,st.ev hx,st.ev hy,st.ev hz,st.ev hz',resolve,invoke,builtin,Builtin.max_,Builtin.max2,e]
theorem d0g {i j k l:Int} {ats:Array TypeId} {z z':Operand} (hx:ev L x=some (.int .i64 i)) (hy:ev L y=some (.int .i64 j)) (hz:ev L z=some (.int .i64 k)) (hz':ev L z'=some (.int .i64 l)):OV P n E I L H ⟨some d,.call { callee:=.builtin .min,args:=#[x,y,z,z'],argTypes:=ats },ty,pos,af,none⟩ (.int .i64 (min (min (min i j) k) l)):=fun a w st _=>by
 have e:∀p q:Int,(if q<p then q else p)=min p q:=fun p q=>oM
 simp[execOp,st.ev hx,st.ev hy,st.ev hz,st.ev hz',resolve,invoke,builtin,Builtin.min_,Builtin.min2,e]
theorem c3f {q:Nat} (hq:q<18446744073709551616) (hx:ev L x=some (.int .u64 ((q:Nat):Int))):OV P n E I L H ⟨some d,.binOp .and tx x (.const (.int .u64 4294967295)) tyy,ty,pos,af,none⟩ (.int .u64 ((q % 4294967296:Nat):Int)):=
 (fun a w s _=>by
  have h:=bits_and_u64_nat q 4294967295 hq oM;have e:q &&& 4294967295=q % 4294967296:=Nat.and_two_pow_sub_one_eq_mod q 32;rw[e]at h
  have hy:a.eval (.const (.int .u64 4294967295)) = .int .u64 4294967295:=rfl;have h2:Op.intBits .and .u64 (q:Int) 4294967295=pure (.int .u64 ((q % 4294967296:Nat):Int)):=by rw[←h];rfl
  simp only[execOp,s.ev hx,hy,eqGuard_at_int,binOp_and,h2,Sem.run_bind]
  rfl)
theorem c3c {q:Nat} {kk:IntKind} (hx:ev L x=some (.int .u64 ((q:Nat):Int))):OV P n E I L H ⟨some d,.binOp .shr tx x (.const (.int kk 32)) tyy,ty,pos,af,none⟩ (.int .u64 ((q / 4294967296:Nat):Int)):=
 (fun a w s _=>by
  have h:=shift_shr_any .u64 kk (q:Int) 32 oM;have hy:a.eval (.const (.int kk 32)) = .int kk 32:=rfl
  have e:(q:Int) / 2 ^ min (32:Int).toNat IntKind.u64.bits=((q / 4294967296:Nat):Int):=by
   rw[show min (32:Int).toNat IntKind.u64.bits=32 from rfl]
   show (q:Int) / 4294967296=_
   omega
  rw[e]at h
  have hb:binOp .shr tx (.int .u64 (q:Int)) (.int kk 32)=pure (.int .u64 ((q / 4294967296:Nat):Int)):=h
  simp[execOp,s.ev hx,hy,eqGuard_shr,hb])
theorem b7O {q r:Nat} (hx:ev L x=some (.int .u64 ((q:Nat):Int))) (hy:ev L y=some (.int .u64 ((r:Nat):Int))) (hb:q+r<18446744073709551616):OV P n E I L H ⟨some d,.binOp .add tx x y tyy,ty,pos,af,none⟩ (.int .u64 ((q+r:Nat):Int)):=
 (fun a w s _=>by
  have e:IntKind.u64.wrap ((q:Int)+(r:Int))=((q+r:Nat):Int):=by rw[IntKind.wrap_u64];omega
  simp[execOp,s.ev hx,s.ev hy,eqGuard_at_int,binOp_add,Op.intArith,e])
theorem b7P {q r:Nat} (hx:ev L x=some (.int .u64 ((q:Nat):Int))) (hy:ev L y=some (.int .u64 ((r:Nat):Int))) (hb:q * r<18446744073709551616):OV P n E I L H ⟨some d,.binOp .mul tx x y tyy,ty,pos,af,none⟩ (.int .u64 ((q * r:Nat):Int)):=
 (fun a w s _=>by
  have e0:(q:Int) * (r:Int)=((q * r:Nat):Int):=(Int.natCast_mul q r).symm;have e:IntKind.u64.wrap ((q:Int) * (r:Int))=((q * r:Nat):Int):=by rw[e0,IntKind.wrap_u64];omega
  simp[execOp,s.ev hx,s.ev hy,eqGuard_at_int,binOp_mul,Op.intArith,e])
theorem d2K {i j:Int} (hx:ev L x=some (.int .i64 i)) (hy:ev L y=some (.int .i64 j)):OV P n E I L H ⟨some d,.binOp .add tx x y tyy,ty,pos,af,none⟩ (.int .i64 (IntKind.i64.wrap (i+j))):=
 (fun a w s _=>by simp[execOp,s.ev hx,s.ev hy,eqGuard_at_int,binOp_add,Op.intArith])
theorem d2N {q r:Nat} (hx:ev L x=some (.int .u64 ((q:Nat):Int))) (hy:ev L y=some (.int .u64 ((r:Nat):Int))):OV P n E I L H ⟨some d,.binOp .mul tx x y tyy,ty,pos,af,none⟩ (.int .u64 ((q * r % 18446744073709551616:Nat):Int)):=
 (fun a w s _=>by
  have e0:(q:Int) * (r:Int)=((q * r:Nat):Int):=(Int.natCast_mul q r).symm;have e:IntKind.u64.wrap ((q:Int) * (r:Int))=((q * r % 18446744073709551616:Nat):Int):=by rw[e0,IntKind.wrap_u64];omega
  simp[execOp,s.ev hx,s.ev hy,eqGuard_at_int,binOp_mul,Op.intArith,e])
end
end Go.Sx
set_option linter.all false
namespace Go.Sx
open Go
def b5e (l:List Int):Nat→Int
 |0=>l[0]?.getD 0
 |i+1=>if l[i+1]?.getD 0<b5e l i then l[i+1]?.getD 0 else b5e l i
def b5d (l:List Int):Nat→Int
 |0=>l[0]?.getD 0
 |i+1=>if l[i+1]?.getD 0>b5d l i then l[i+1]?.getD 0 else b5d l i
section
variable {l:List Int} {i:Nat}
theorem c1C (h:0<l.length):b5e l 0=l[0]:=by simp[b5e,h]
theorem c1q (h:0<l.length):b5d l 0=l[0]:=by simp[b5d,h]
theorem c1B (h:i+1<l.length):(if l[i+1]<b5e l i then l[i+1] else b5e l i)=b5e l (i+1):=by simp[b5e,h]
theorem c1p (h:i+1<l.length):(if l[i+1]>b5d l i then l[i+1] else b5d l i)=b5d l (i+1):=by simp[b5d,h]
end
theorem d1K (a b:Int):(if b<a then b else a)=min a b:=oM
theorem d1G (a b:Int):(if b>a then b else a)=max a b:=oM
theorem d1J (a b c d:Int):b5e [a,b,c,d] 3=min (min (min a b) c) d:=by
 show (if d<(if c<(if b<a then b else a) then c else (if b<a then b else a)) then d else (if c<(if b<a then b else a) then c else (if b<a then b else a)))=_
 simp only[d1K]
theorem d1F (a b c d:Int):b5d [a,b,c,d] 3=max (max (max a b) c) d:=by
 show (if d>(if c>(if b>a then b else a) then c else (if b>a then b else a)) then d else (if c>(if b>a then b else a) then c else (if b>a then b else a)))=_
 simp only[d1G]
theorem b1J {f:Int→Int→Int} {a b:Ivl} (h:(!a1D a || !a1D b)=true):a8y f a b=a3n:=if_pos h
theorem c3L {f:Int→Int→Int} {a b:Ivl} (h:(!a1D a || !a1D b)=false):a8y f a b=⟨b5e [f a.low b.low,f a.low b.high,f a.high b.low,f a.high b.high] 3,b5d [f a.low b.low,f a.low b.high,f a.high b.low,f a.high b.high] 3⟩:=by
 unfold a8y;rw[if_neg (by rw[h];decide),d1J,d1F]
theorem a9o {a b:Ivl} (h:(!a1D a || !a1D b)=false):((-(1000000000000:Int)≤a.low∧a.low≤(1000000000000:Int))∧(-(1000000000000:Int)≤a.high∧a.high≤(1000000000000:Int)))∧((-(1000000000000:Int)≤b.low∧b.low≤(1000000000000:Int))∧(-(1000000000000:Int)≤b.high∧b.high≤(1000000000000:Int))):=by
 simp only[Bool.or_eq_false_iff,Bool.not_eq_false']at h
 have h1:=a0V.1 h.1;have h2:=a0V.1 h.2
 omega
theorem c1f {a b:Ivl} (h:(!a1D a || !a1D b)=true):a2y a b=a3n:=if_pos h
theorem c4D {a b:Ivl} (h:(!a1D a || !a1D b)=false):a2y a b=⟨b5e [a.low,a.high,b.low,b.high] 3,b5d [a.low,a.high,b.low,b.high] 3⟩:=by
 have hn:¬(!a1D a || !a1D b)=true:=by rw[h];decide
 simp only[Bool.or_eq_false_iff,Bool.not_eq_false']at h
 have h1:=a0V.1 h.1;have h2:=a0V.1 h.2;unfold a2y;rw[if_neg hn,d1J,d1F]
 congr 1<;>omega
theorem c9y {a b:Int} (h:(!(decide (a<0) == decide (b<0)))=true) : -(min ((a.natAbs * b.natAbs:Nat):Int) (1000000000000:Int))=a5N (a * b):=by
 have e:(((a.natAbs * b.natAbs:Nat)):Int)=((a * b).natAbs:Int):=by rw[Int.natAbs_mul]
 rw[e];unfold a5N
 by_cases ha:a<0<;>by_cases hb:b<0
 ·simp[ha,hb]at h
 ·have:a * b≤0:=Int.mul_nonpos_of_nonpos_of_nonneg oM oM
  omega
 ·have:a * b≤0:=Int.mul_nonpos_of_nonneg_of_nonpos oM oM
  omega
 ·simp[ha,hb]at h
theorem c9z {a b:Int} (h:(!(decide (a<0) == decide (b<0)))=false):(min ((a.natAbs * b.natAbs:Nat):Int) (1000000000000:Int))=a5N (a * b):=by
 have e:(((a.natAbs * b.natAbs:Nat)):Int)=((a * b).natAbs:Int):=by rw[Int.natAbs_mul]
 rw[e];unfold a5N
 by_cases ha:a<0<;>by_cases hb:b<0
 ·have:=Int.mul_nonneg_of_nonpos_of_nonpos (a:=a) (b:=b) oM oM
  omega
 ·simp[ha,hb]at h
 ·simp[ha,hb]at h
 ·have:=Int.mul_nonneg (a:=a) (b:=b) oM oM
  omega
theorem c2M {a b:Int}:(a.tdiv b).natAbs≤a.natAbs∧(a.tdiv b * b).natAbs≤a.natAbs:=by
 have h1:(a.tdiv b).natAbs≤a.natAbs:=by rw[Int.natAbs_tdiv];exact Nat.div_le_self _ _
 refine⟨h1,?_⟩;rw[Int.natAbs_mul,Int.natAbs_tdiv];exact Nat.div_mul_le_self _ _
def a6H (a b:Int):Bool:=!decide (a.tdiv b * b=a) && !(decide (a<0) == decide (b<0))
theorem c0E {a b:Int} (h:b=0):a2O a b=0:=if_pos h
theorem c0D {a b:Int} (h:¬b=0) (h2:a6H a b=true):a.tdiv b-1=a2O a b:=by
 unfold a2O
 simp only[a6H,Bool.and_eq_true,Bool.not_eq_true',decide_eq_false_iff_not]at h2
 rw[if_neg h,if_pos ⟨h2.1,by cases h1:decide (a<0)<;>cases h3:decide (b<0)<;>simp_all⟩]
theorem c0C {a b:Int} (h:¬b=0) (h2:a6H a b=false):a.tdiv b=a2O a b:=by
 unfold a2O;rw[if_neg h,if_neg];rintro⟨h3,h4⟩
 simp only[a6H]at h2
 cases h1:decide (a<0)<;>cases h5:decide (b<0)<;>simp_all
section
variable {f:Fm} {n m:Int} {i:Nat}
theorem b9V:∀{ks:List Fm} {k:Fm},k∈ks→cntN k≤cntNL ks
 | [],k,h=>by cases h
 |x::ks,k,h=>by
  simp only[cntNL]
  rcases List.mem_cons.1 h with rfl|h
  ·omega
  ·have:=b9V h;omega
theorem a1N {k:Fm} (h:k∈f.kids):cntN k<cntN f:=by
 obtain⟨op,n,kids⟩:=f;have:=b9V (show k∈kids from h)
 simp only[cntN];omega
theorem a9P:nodesL (f.kids.drop 0) 1 m=nodesF f m:=by cases f;rfl
theorem b1e (hi:i<f.kids.length) (h:nodesL (f.kids.drop i) n m=nodesF f m) (hn:¬n>m):nodesL (f.kids.drop (i+1)) (n+nodesF f.kids[i] (m-n)) m=nodesF f m:=by
 rw[List.drop_eq_getElem_cons hi]at h
 rw[←h];simp only[nodesL,if_neg hn]
theorem b1f (hi:i<f.kids.length) (h:nodesL (f.kids.drop i) n m=nodesF f m) (hn:n>m):n=nodesF f m:=by
 rw[List.drop_eq_getElem_cons hi]at h
 rw[←h];simp only[nodesL,if_pos hn]
theorem b3x (hi:¬i<f.kids.length) (h:nodesL (f.kids.drop i) n m=nodesF f m):n=nodesF f m:=by
 rw[List.drop_eq_nil_of_le oM]at h
 rw[←h];rfl
def b0w (f:Fm):Bool:=decide (f.op<1)||decide (f.op>11)
def a8x (f:Fm):Bool:=((!decide ((f.kids.length:Int)=a6D f.op)||decide (f.n<0))||decide (f.n>9999999))||(decide (f.n>0) && !decide (f.op=1))
theorem a9a:rightF f=(!b0w f&&(!a8x f&&a2m (fun _ k=>rightF k) f.kids f.kids.length)):=by
 have hl:∀ks:List Fm,rightL ks=ks.all rightF:=fun ks=>by
  induction ks with
  |nil=>rfl
  |cons x ks ih=>simp only[rightL,List.all_cons,ih]
 have ha:∀ks:List Fm,a2m (fun _ k=>rightF k) ks ks.length=ks.all rightF:=fun ks=>by
  rw[Bool.eq_iff_iff]
  constructor
  ·intro h;rw[List.all_eq_true];intro x hx;obtain⟨pre,h1⟩:=a4g h hx;exact h1
  ·intro h;rw[List.all_eq_true]at h
   unfold a2m;rw[List.all_eq_true];intro i hi
   cases hq:ks[i]? with
   |none=>rfl
   |some x=>exact h x (List.mem_of_getElem? hq)
 obtain⟨op,n,kids⟩:=f;rw[ha]
 simp only[rightF,hl,b0w,a8x,Fm.op,Fm.n,Fm.kids,ne_eq,decide_not,Bool.and_assoc]
 rfl
theorem b3T (h1:b0w f=false) (h2:a8x f=false) (h3:a2m (fun _ k=>rightF k) f.kids f.kids.length=true):rightF f=true:=by rw[a9a,h1,h2,h3];rfl
theorem b7s (h1:b0w f=true):rightF f=false:=by rw[a9a,h1];rfl
theorem b7t (h1:a8x f=true):rightF f=false:=by rw[a9a,h1];simp
theorem b3V (h1:i<f.kids.length) (h:rightF f.kids[i]=false):rightF f=false:=by rw[a9a,a0R (f:=fun _ k=>rightF k) h1 h];simp
theorem a5B (h:rightF f=true):(1≤f.op∧f.op≤11)∧(f.kids.length:Int)=a6D f.op∧(0≤f.n∧f.n≤9999999)∧∀k∈f.kids,rightF k=true:=by
 cases f;exact a7G h
theorem a0M (h:rightF f=true) (i:Nat) (hi:i<f.kids.length):rightF f.kids[i]=true:=(a5B h).2.2.2 _ (List.getElem_mem hi)
theorem d4r {l:List Fm} (h:l.length=0):l=[]:=List.eq_nil_of_length_eq_zero h
theorem b7C (h:rightF f=true) (h1:f.op=1) (u:Use):a0U u f=⟨f.n,f.n⟩:=by
 have h2:=(a5B h).2.1;obtain⟨op,n,kids⟩:=f;obtain rfl:op=1:=h1;obtain rfl:kids=[]:=d4r (by simpa[a6D,Fm.op,Fm.kids]using h2)
 simp[a0U,Fm.n]
theorem a5C (h:rightF f=true) (h1:¬f.op=1) (h4:f.op≤4) (u:Use):a0U u f=a4U u f.op:=by
 have h2:=(a5B h).2.1;obtain⟨op,n,kids⟩:=f;have g1:¬op=1:=h1;have g4:op≤4:=h4
 obtain rfl:kids=[]:=d4r (by
  have:(kids.length:Int)=a6D op:=h2;unfold a6D at this
  rw[if_neg oM,if_neg oM]at this
  omega)
 show (if op=1 then _ else _)=_
 rw[if_neg g1];rfl
theorem b8w (h:rightF f=true) (h1:f.op=11):f.kids.length=3:=by
 have h2:=(a5B h).2.1;rw[h1]at h2
 have e:a6D 11=3:=by decide
 rw[e]at h2;omega
theorem c8z (h:rightF f=true) (h1:¬f.op=11) (h4:¬f.op≤4):f.kids.length=2:=by
 have h2:=(a5B h).2.1;unfold a6D at h2
 rw[if_neg h1,if_pos oM]at h2
 omega
theorem a1F (h3:f.kids.length=3) (u:Use):a0U u f=a1n (a0U u f.kids[0]) (a0U u f.kids[1]) (a0U u f.kids[2]):=by
 obtain⟨op,n,kids⟩:=f;have h3:kids.length=3:=h3
 match kids,h3 with
 | [a,b,c],_=>simp only[a0U,Fm.kids];rfl
theorem b7D (h3:f.kids.length=2) (u:Use):a0U u f=a5H f.op (a0U u f.kids[0]) (a0U u f.kids[1]):=by
 obtain⟨op,n,kids⟩:=f;have h3:kids.length=2:=h3
 match kids,h3 with
 | [a,b],_=>simp only[a0U,Fm.kids];rfl
end
theorem a1E {I:IMap} {s:Value} {k:Fm} (h:RdS I s k.kids):FmRd I [ci k.op,ci k.n,s] k:=by cases k;exact fm_in _ _ h
def c3u (l:List Ivl):List Value:=l.flatMap Ivl.cells
theorem b3m {I:IMap} (l:List Ivl):Flat I (c3u l) l:=by
 induction l with
 |nil=>exact .nil
 |cons x l ih=>exact .cons rfl ih
theorem c4z (l m:List Ivl):c3u (l++m)=c3u l++c3u m:=List.flatMap_append
theorem c4A (x:Ivl):c3u [x]=x.cells:=by simp[c3u]
theorem RdS.rda {α:Type} [Enc α] {I:IMap} {A:Option Addr} {m c:Nat} {l:List α} (h:RdS I (.slice A m c) l):RdA I A l:=by
 obtain⟨_,_,e,h,_⟩:=h;cases e;exact h
theorem b1q (a:Ivl) (x y:Int):(a2u a x y).length≤2:=by unfold a2u;split<;>simp
theorem d1g {a b:Ivl} (h:0<(a3y a b).length):c0e a b=(a3y a b).foldl a2y (a3y a b)[0]:=by
 have hd:∀(l:List Ivl) (h:0<l.length),l.headD a3n=l[0]:=fun l h=>by cases l with|nil=>simp at h|cons x l=>rfl
 unfold c0e;rw[hd _ h]
theorem d2I {u:Use} {i:Nat} (h:i<3) (hb:a6C ([u.km,u.cycles,u.load][i])=false):a4E u=false:=by
 have h3:i=0∨i=1∨i=2:=oM
 rcases h3 with rfl|rfl|rfl<;>(simp at hb;simp[a4E,hb])
theorem d0a {u:Use} (h:a2m (fun _ q=>a6C q) [u.km,u.cycles,u.load] 3=true):a4E u=true:=by
 unfold a2m at h
 rw[List.all_eq_true]at h
 have h0:=h 0 (by simp);have h1:=h 1 (by simp);have h2:=h 2 (by simp)
 simp at h0 h1 h2
 simp[a4E,h0,h1,h2]
theorem c6E {f:Fm} {u:Use} (h:a4E u=false):a6G f u=a3n:=by unfold a6G;rw[if_pos h]
theorem c0a {f:Fm} {u:Use} (h:a4E u=true) (hv:a1p f=false):a6G f u=a3n:=by unfold a6G;rw[if_neg (by rw[h];decide),if_pos hv]
theorem c0b {f:Fm} {u:Use} (h:a4E u=true) (hv:a1p f=true):a6G f u=⟨max 0 (a0U u f).low,max 0 (a0U u f).high⟩:=by unfold a6G;rw[if_neg (by rw[h];decide),if_neg (by rw[hv];decide)]
theorem b8l {l:List Ivl} {z:Ivl} {i:Nat} (h:i<l.length):(l.take (i+1)).foldl a2y z=a2y ((l.take i).foldl a2y z) l[i]:=by
 rw[←a0e h,List.foldl_append];rfl
section
variable {P:Program} {ρ:Option Nat} {n:Sz} {E:Ent} {I I':IMap} {L:LL} {H H0:List Res} {Q:Exit→Act→World→Prop} {ops:Array Oper} {K:Act→World→Prop}
variable {d ty:Nat} {pos:String} {af:Array Edge} {fo:Operand} {as_:List Operand} {ats:Array TypeId} {f:FuncId} {args:List Value} {r1 r2 r3:Res}
theorem b6N {post:Value→IMap→List Res→Prop} (hc:FnH P f args.toArray I [r1,r2,r3] post) (h:a1z L fo as_=some (f,args)) (hd:Nat.blt d n.sz=true)
  (k:∀v I' H',ILe I I'→post v I' H'→SX n E I' ((d,v)::L) (H'++H0) K) :
  SX n E I L (r1::r2::r3::H0) (one P ops Q ⟨some d,.call { callee:=.value fo,args:=as_.toArray,argTypes:=ats },ty,pos,af,none⟩ K):=a3E (Hc:=[r1,r2,r3]) hc h hd k
theorem b7H {a b c:Res} (h:SX n E I L (a::b::c::H) K):SX n E I L ([a,b,c]++H) K:=h
end
end Go.Sx
namespace Go.Proofs.YtkndpfncklhhlaaGreat
open Go Go.Sx Tryz
set_option linter.all false
set_option maxRecDepth 20000
set_option maxHeartbeats 4000000
instance:Has (a2A prog 34) ([.int .i64 0,.int .i64 0],2,16):=hk
instance:Has (a9w prog 152) (113,1):=hk
instance:Has (a9w prog 188) (34,2):=hk
instance:Has (a9w prog 25) (27,3):=hk
instance:Has (a3C prog 191 0) (0,true,6):=hk
instance:Has (a3C prog 27 0) (0,false,1):=hk
instance:Has (a3C prog 27 1) (1,false,1):=hk
instance:Has (a3C prog 27 2) (2,false,1):=hk
instance : Has (a9M prog 191 "bogie/formula.apply") 281 := hk
instance : Has (a9M prog 191 "bogie/formula.choose") 282 := hk
instance : Has (a9M prog 191 "bogie/formula.letter") 283 := hk
instance : Has (a9M prog 191 "bogie/formula.number") 284 := hk
instance:Has (plK prog 191) [(0,6)]:=hk
instance:Has (plK prog 34) [(0,1),(1,1)]:=hk
theorem T.stk_191:b0j prog 191=true:=by kernel_rfl
instance:Has (tyK prog 113) (false,1):=hk
instance:Has (tyK prog 188) (false,1):=hk
instance:Has (tyK prog 25) (false,1):=hk
instance:Has (tyK prog 27) (true,3):=hk
instance:Has (prog.underlying 113) (.int .i64):=hk
instance:Has (prog.underlying 152) (.slice 113):=hk
instance:Has (prog.underlying 188) (.slice 34):=hk
instance T.und_25:Has (prog.underlying 25) (.slice 27):=hk
instance:Has (a2r prog 113) [.int .i64 0]:=hk
instance:Has (a2r prog 188) [.slice none 0 0]:=hk
instance:Has (a2r prog 191) [.int .i64 0,.int .i64 0,.int .i64 0,.int .i64 0,.int .i64 0,.int .i64 0]:=hk
instance:Has (a2r prog 27) [.int .i64 0,.int .i64 0,.slice none 0 0]:=hk
instance:Has (a2r prog 34) [.int .i64 0,.int .i64 0]:=hk
theorem a9J (I:IMap) (x:Ivl) :
    FnV prog 49 #[.agg x.cells.toArray] I (.bool (a1D x)):=by
 refine enter func49 call49 rfl ntmps49 rfl fun w0=>?_;refine go 4 fun g1=>?_
 refine gS 9 6 (fun h6 p6=>?_) fun h6 p6=>?_
 ·refine gS 7 13 (fun h13 p13=>?_) fun h13 p13=>?_
  ·refine go 9 ?_;exact q_v (congrArg Value.bool (by simp only[a1D,h6,h13,bS]))
  ·refine go 9 ?_;exact q_v (congrArg Value.bool (by simp only[a1D,h6,h13,bS]))
 ·refine go 16 ?_;exact q_v (congrArg Value.bool (by simp only[a1D,h6,bS]))
theorem d1B (I:IMap) (n:Int) :
    FnV prog 226 #[.int .i64 (n)] I (.int .i64 (a5N n)):=by
 refine enter func226 call226 rfl ntmps226 rfl fun w0=>?_;refine go 8 ?_;refine o_v rfl (OV.cast (u:=.int .i64 (min n (1000000000000:Int))) (a3x rfl rfl) (congrArg (Value.int .i64) oM)) ?_;refine o_v rfl (OV.cast (u:=.int .i64 (a5N n)) (a2a rfl rfl) (congrArg (Value.int .i64) (by unfold a5N;omega))) ?_;refine go 5 ?_;exact q_v rfl
theorem c8w (I:IMap) (a b:Int) (ha : -(1000000000000:Int)≤a∧a≤(1000000000000:Int)) (hb : -(1000000000000:Int)≤b∧b≤(1000000000000:Int)) :
    FnV prog 183 #[.int .i64 (a),.int .i64 (b)] I (.int .i64 (a5N (a+b))):=by
 refine enter func183 call183 rfl ntmps183 rfl fun w0=>?_;refine go 11 ?_;refine cV (d1B _ _) ?_;refine go 5 ?_;exact q_v rfl
theorem c4B (I:IMap) (a b:Int) (ha : -(1000000000000:Int)≤a∧a≤(1000000000000:Int)) (hb : -(1000000000000:Int)≤b∧b≤(1000000000000:Int)) :
    FnV prog 280 #[.int .i64 (a),.int .i64 (b)] I (.int .i64 (a5N (a-b))):=by
 refine enter func280 call280 rfl ntmps280 rfl fun w0=>?_;refine go 11 ?_;refine cV (d1B _ _) ?_;refine go 5 ?_;exact q_v rfl
theorem b9G (I:IMap) (x y:Nat) (hx:x<18446744073709551616) (hy:y<18446744073709551616) :
    FnV prog 292 #[.int .u64 ((x:Nat):Int),.int .u64 ((y:Nat):Int)] I (.tuple #[.int .u64 ((x * y / 18446744073709551616:Nat):Int),.int .u64 ((x * y % 18446744073709551616:Nat):Int)]):=by
 obtain⟨bd,bt,bw,hhi⟩:=Lib.mul64_hi x y hx hy;have ba:=Lib.half_mul_le (a:=x / 4294967296) (b:=y / 4294967296) oM oM;have bb:=Lib.half_mul_le (a:=x / 4294967296) (b:=y % 4294967296) oM oM;have bc:=Lib.half_mul_le (a:=x % 4294967296) (b:=y / 4294967296) oM oM;refine enter func292 call292 rfl ntmps292 rfl fun w0=>?_;refine go 9 ?_;refine o_v rfl (c3f hx rfl) ?_;refine go 6 ?_;refine o_v rfl (c3c rfl) ?_;refine go 6 ?_;refine o_v rfl (c3f hy rfl) ?_;refine go 6 ?_;refine o_v rfl (c3c rfl) ?_;refine go 7 ?_;refine o_v rfl (b7P rfl rfl bd) ?_;refine go 7 ?_;refine o_v rfl (b7P rfl rfl oM) ?_;refine go 1 ?_;refine o_v rfl (c3c rfl) ?_;refine o_v rfl (b7O rfl rfl bt) ?_;refine go 6 ?_;refine o_v rfl (c3f bt rfl) ?_;refine go 6 ?_;refine o_v rfl (c3c rfl) ?_;refine go 8 ?_;refine o_v rfl (b7P rfl rfl oM) ?_;refine o_v rfl (b7O rfl rfl bw) ?_;refine go 7 ?_;refine o_v rfl (b7P rfl rfl oM) ?_;refine go 1 ?_;refine o_v rfl (b7O rfl rfl oM) ?_;refine go 1 ?_;refine o_v rfl (c3c rfl) ?_;refine o_v rfl (b7O rfl rfl oM) ?_;refine go 7 ?_;refine o_v rfl (d2N rfl rfl) ?_;refine go 5 ?_;exact q_v (by rw[hhi])
theorem c4C (I:IMap) (a b:Int) (ha : -(1000000000000:Int)≤a∧a≤(1000000000000:Int)) (hb : -(1000000000000:Int)≤b∧b≤(1000000000000:Int)) :
    FnV prog 289 #[.int .i64 (a),.int .i64 (b)] I (.int .i64 (a5N (a * b))):=by
 refine enter func289 call289 rfl ntmps289 rfl fun w0=>?_;refine go 9 ?_;refine o_v rfl (d0j rfl ⟨oM,oM⟩) ?_;refine o_v rfl (OV.cast (u:=.int .i64 (((a.natAbs:Nat):Int))) (a2a rfl rfl) (congrArg (Value.int .i64) oM)) ?_;refine o_v rfl (a2d he he rfl (m:=((a.natAbs:Nat):Int)) (wrap_u64 _ oM oM)) ?_;refine go 2 ?_;refine o_v rfl (d0j rfl ⟨oM,oM⟩) ?_;refine o_v rfl (OV.cast (u:=.int .i64 (((b.natAbs:Nat):Int))) (a2a rfl rfl) (congrArg (Value.int .i64) oM)) ?_;refine o_v rfl (a2d he he rfl (m:=((b.natAbs:Nat):Int)) (wrap_u64 _ oM oM)) ?_;refine go 1 ?_;refine cV (b9G _ a.natAbs b.natAbs oM oM) ?_;refine go 13 ?_;refine a1h (I':=I) (L':=[(0,.int .i64 (a)),(1,.int .i64 (b)),(7,.int .i64 (min ((a.natAbs * b.natAbs:Nat):Int) (1000000000000:Int)))]) (H':=[]) ?_ ?_
 ·refine gS 5 24 (fun h24 p24=>?_) fun h24 p24=>?_
  ·refine gC 5 (fun h27 p27=>?_) fun h27 p27=>?_
   ·refine go 2 ?_;refine o_v rfl (a2d he he rfl (m:=((a.natAbs * b.natAbs % 18446744073709551616:Nat):Int)) (by rw[IntKind.wrap_i64];omega)) ?_;refine go 3 ?_;exact a0h ⟨rfl,rfl,(congrArg (fun z=>some (Value.int .i64 z)) oM),trivial⟩ rfl rfl
   ·refine go 2 ?_;exact a0h ⟨rfl,rfl,(congrArg (fun z=>some (Value.int .i64 z)) oM),trivial⟩ rfl rfl
  ·refine go 8 ?_;exact a0h ⟨rfl,rfl,(congrArg (fun z=>some (Value.int .i64 z)) oM),trivial⟩ rfl rfl
 ·refine go 7 ?_;refine o_v rfl (b0p he rfl rfl) ?_;refine gC 2 (fun h34 p34=>?_) fun h34 p34=>?_
  ·refine go 3 ?_;refine o_v rfl (d0j rfl ⟨oM,oM⟩) ?_;refine go 6 ?_;exact q_v (congrArg (Value.int .i64) (c9y h34))
  ·refine go 10 ?_;exact q_v (congrArg (Value.int .i64) (c9z h34))
theorem d2E (I:IMap) (v:Value) (l:List Int) (hv:RdS I v l) (h0:0<l.length) :
    FnV prog 91 #[v] I (.int .i64 (b5e l (l.length-1))):=by
 obtain⟨A,c0,rfl,hA,hc,hm⟩:=hv;refine enter func91 call91 rfl ntmps91 rfl fun w0=>?_;refine gC 13 (fun h7 p7=>?_) fun h7 p7=>?_
 ·exfalso;omega
 ·refine go 5 ?_;obtain⟨b10,o10,w10,e10,c10,r10⟩:=RdA.at_ hA (i:=0) oM;obtain rfl:=r10;refine o_v rfl (a0i he rfl rfl e10 (0) oM oM) ?_;refine go 11 ?_
  refine a0w (α:=Nat) 0 (fun i=>I)
   (fun i=>[(0,.slice A l.length c0),(3,.int .i64 (b5e l i)),(4,.int .i64 ((i+1:Nat):Int))])
   (fun i=>[])
   (fun i=>i<l.length)
   (fun i=>l.length-i) h0 rfl ⟨rfl,by rw[c1C h0];rfl,rfl,trivial⟩ rfl ?_
  intro i hx;refine gC 9 (fun h15 p15=>?_) fun h15 p15=>?_
  ·refine go 8 ?_;obtain⟨b21,o21,w21,e21,c21,r21⟩:=RdA.at_ hA (i:=i+1) oM;obtain rfl:=r21;refine o_v rfl (a0i he rfl rfl e21 (i+1) oM oM) ?_;refine go 1 ?_;refine o_v rfl (OV.cast (u:=.int .i64 (b5e l (i+1))) (a3x rfl rfl) (congrArg (Value.int .i64) (c1B oM))) ?_;refine go 10 ?_;exact a0s (i+1) oM oM rfl sb rfl
  ·obtain rfl:i=l.length-1:=oM;refine go 13 ?_;exact q_v rfl
theorem d2D (I:IMap) (v:Value) (l:List Int) (hv:RdS I v l) (h0:0<l.length) :
    FnV prog 92 #[v] I (.int .i64 (b5d l (l.length-1))):=by
 obtain⟨A,c0,rfl,hA,hc,hm⟩:=hv;refine enter func92 call92 rfl ntmps92 rfl fun w0=>?_;refine gC 13 (fun h7 p7=>?_) fun h7 p7=>?_
 ·exfalso;omega
 ·refine go 5 ?_;obtain⟨b10,o10,w10,e10,c10,r10⟩:=RdA.at_ hA (i:=0) oM;obtain rfl:=r10;refine o_v rfl (a0i he rfl rfl e10 (0) oM oM) ?_;refine go 11 ?_
  refine a0w (α:=Nat) 0 (fun i=>I)
   (fun i=>[(0,.slice A l.length c0),(3,.int .i64 (b5d l i)),(4,.int .i64 ((i+1:Nat):Int))])
   (fun i=>[])
   (fun i=>i<l.length)
   (fun i=>l.length-i) h0 rfl ⟨rfl,by rw[c1q h0];rfl,rfl,trivial⟩ rfl ?_
  intro i hx;refine gC 9 (fun h15 p15=>?_) fun h15 p15=>?_
  ·refine go 8 ?_;obtain⟨b21,o21,w21,e21,c21,r21⟩:=RdA.at_ hA (i:=i+1) oM;obtain rfl:=r21;refine o_v rfl (a0i he rfl rfl e21 (i+1) oM oM) ?_;refine go 1 ?_;refine o_v rfl (OV.cast (u:=.int .i64 (b5d l (i+1))) (a2a rfl rfl) (congrArg (Value.int .i64) (c1p oM))) ?_;refine go 10 ?_;exact a0s (i+1) oM oM rfl sb rfl
  ·obtain rfl:i=l.length-1:=oM;refine go 13 ?_;exact q_v rfl
theorem b6t (I:IMap) (v:Value) (l:List Int) (hv:RdS I v l) (h0:0<l.length) :
    FnV prog 50 #[v] I (.agg #[.int .i64 (b5e l (l.length-1)),.int .i64 (b5d l (l.length-1))]):=by
 refine enter func50 call50 rfl ntmps50 rfl fun w0=>?_;refine go 4 fun g2=>?_
 refine go 6 ?_;refine cV (d2E _ _ l hv h0) ?_;refine go 2 ?_;refine cV (d2D _ _ l hv h0) ?_;refine go 7 ?_;exact q_v rfl
theorem c1d (I:IMap) (a b:Ivl) (g:FuncId) (f:Int→Int→Int) (hf:∀x y,(-(1000000000000:Int)≤x∧x≤(1000000000000:Int))→(-(1000000000000:Int)≤y∧y≤(1000000000000:Int))→FnV prog g #[.int .i64 (x),.int .i64 (y)] I (.int .i64 (f x y))) :
    FnV prog 182 #[.agg a.cells.toArray,.agg b.cells.toArray,.func (.func g) #[] #[]] I (.agg (a8y f a b).cells.toArray):=by
 refine enter func182 call182 rfl ntmps182 rfl fun w0=>?_;refine go 4 fun g3=>?_
 refine go 2 fun g4=>?_
 refine go 2 fun g6=>?_
 refine go 4 ?_;refine a1h (I':=I) (L':=[(2,.func (.func g) #[] #[]),(3,.pointer (some ⟨g3,0,none⟩)),(4,.pointer (some ⟨g4,0,none⟩)),(6,.pointer (some ⟨g6,0,none⟩)),(18,.bool (!a1D a || !a1D b))]) (H':=[.blk g3 34 a.cells,.blk g4 34 b.cells,.blk g6 34 [.int .i64 (0),.int .i64 (0)]]) ?_ ?_
 ·refine go 3 ?_;refine cV (a9J _ a) ?_;refine gS 2 14 (fun h14 p14=>?_) fun h14 p14=>?_
  ·refine go 6 ?_;refine a0b ?_;refine a0c ?_;exact a0h ⟨rfl,rfl,rfl,rfl,(bB (by simp only[h14,bS])),trivial⟩ rfl rfl
  ·refine go 2 ?_;refine a0z rfl rfl h14 (a0x (a9J _ b) rfl rfl ?_);refine go 4 ?_;refine a0b ?_;refine a0c ?_;exact a0h ⟨rfl,rfl,rfl,rfl,(bB (by simp only[h14,bS])),trivial⟩ rfl rfl
 ·refine gC 0 (fun h18 p18=>?_) fun h18 p18=>?_
  ·refine go 4 ?_;refine a0c ?_;refine go 6 ?_;exact q_v (by rw[b1J h18];rfl)
  ·obtain⟨⟨ha1,ha2⟩,hb1,hb2⟩:=a9o h18;refine go 4 ?_;refine dG 0 12 ?_;refine go 8 ?_;refine cV (hf _ _ ha1 hb1) ?_;refine go 4 ?_;refine cV (hf _ _ ha1 hb2) ?_;refine go 4 ?_;refine cV (hf _ _ ha2 hb1) ?_;refine go 4 ?_;refine cV (hf _ _ ha2 hb2) ?_;refine go 2 fun v44=>?_
   refine go 1 ?_;refine a9S m0 rfl rfl ((a6p [f a.low b.low,f a.low b.high,f a.high b.low,f a.high b.high])) (fun I2 hI2 hR=>b6t _ _ [f a.low b.low,f a.low b.high,f a.high b.low,f a.high b.high] hR (Nat.zero_lt_succ _)) rfl rfl ?_;refine go 1 ?_;refine a0p ?_;refine go 5 ?_;exact q_v (by rw[c3L h18];rfl)
theorem a2f (I:IMap) (a b:Ivl) :
    FnV prog 132 #[.agg a.cells.toArray,.agg b.cells.toArray] I (.agg (b5R a b).cells.toArray):=by
 refine enter func132 call132 rfl ntmps132 rfl fun w0=>?_;refine go 4 fun g2=>?_
 refine go 2 fun g3=>?_
 refine go 2 fun g4=>?_
 refine go 7 ?_;refine cV (c1d _ a b _ _ (fun x y hx hy=>c8w _ x y hx hy)) ?_;refine go 6 ?_;exact q_v rfl
theorem d3R (I:IMap) (a b:Ivl) :
    FnV prog 285 #[.agg a.cells.toArray,.agg b.cells.toArray] I (.agg (c9J a b).cells.toArray):=by
 refine enter func285 call285 rfl ntmps285 rfl fun w0=>?_;refine go 4 fun g2=>?_
 refine go 2 fun g3=>?_
 refine go 2 fun g4=>?_
 refine go 7 ?_;refine cV (c1d _ a b _ _ (fun x y hx hy=>c4B _ x y hx hy)) ?_;refine go 6 ?_;exact q_v rfl
theorem d3Q (I:IMap) (a b:Ivl) :
    FnV prog 286 #[.agg a.cells.toArray,.agg b.cells.toArray] I (.agg (d0u a b).cells.toArray):=by
 refine enter func286 call286 rfl ntmps286 rfl fun w0=>?_;refine go 4 fun g2=>?_
 refine go 2 fun g3=>?_
 refine go 2 fun g4=>?_
 refine go 7 ?_;refine cV (c1d _ a b _ _ (fun x y hx hy=>c4C _ x y hx hy)) ?_;refine go 6 ?_;exact q_v rfl
theorem c1e (I:IMap) (a b:Ivl) :
    FnV prog 28 #[.agg a.cells.toArray,.agg b.cells.toArray] I (.agg (a2y a b).cells.toArray):=by
 refine enter func28 call28 rfl ntmps28 rfl fun w0=>?_;refine go 4 fun g2=>?_
 refine go 2 fun g3=>?_
 refine go 2 fun g4=>?_
 refine go 4 ?_;refine a1h (I':=I) (L':=[(2,.pointer (some ⟨g2,0,none⟩)),(3,.pointer (some ⟨g3,0,none⟩)),(4,.pointer (some ⟨g4,0,none⟩)),(12,.bool (!a1D a || !a1D b))]) (H':=[.blk g2 34 a.cells,.blk g3 34 b.cells,.blk g4 34 [.int .i64 (0),.int .i64 (0)]]) ?_ ?_
 ·refine go 3 ?_;refine cV (a9J _ a) ?_;refine gS 2 8 (fun h8 p8=>?_) fun h8 p8=>?_
  ·refine go 6 ?_;refine a0b ?_;refine a0c ?_;exact a0h ⟨rfl,rfl,rfl,(bB (by simp only[h8,bS])),trivial⟩ rfl rfl
  ·refine go 2 ?_;refine a0z rfl rfl h8 (a0x (a9J _ b) rfl rfl ?_);refine go 4 ?_;refine a0b ?_;refine a0c ?_;exact a0h ⟨rfl,rfl,rfl,(bB (by simp only[h8,bS])),trivial⟩ rfl rfl
 ·refine gC 0 (fun h12 p12=>?_) fun h12 p12=>?_
  ·refine go 4 ?_;refine a0c ?_;refine go 6 ?_;exact q_v (by rw[c1f h12];rfl)
  ·refine go 14 fun v22=>?_
   refine go 1 ?_;refine a9S m0 rfl rfl ((a6p [a.low,a.high,b.low,b.high])) (fun I2 hI2 hR=>b6t _ _ [a.low,a.high,b.low,b.high] hR (Nat.zero_lt_succ _)) rfl rfl ?_;refine go 1 ?_;refine a0p ?_;refine go 5 ?_;exact q_v (by rw[c4D h12];rfl)
theorem d1A (I:IMap) (x:Ivl) (n:Int) :
    FnV prog 288 #[.agg x.cells.toArray,.int .i64 (n)] I (.int .i64 (b0H x n)):=by
 refine enter func288 call288 rfl ntmps288 rfl fun w0=>?_;refine go 4 fun g2=>?_
 refine go 6 ?_;refine a1h (I':=I) (L':=[(1,.int .i64 (n)),(2,.pointer (some ⟨g2,0,none⟩)),(5,.bool (!a1D x||decide (x.high≤n)))]) (H':=[.blk g2 34 x.cells]) ?_ ?_
 ·refine go 3 ?_;refine cV (a9J _ x) ?_;refine gS 2 9 (fun h9 p9=>?_) fun h9 p9=>?_
  ·refine go 8 ?_;exact a0h ⟨rfl,rfl,(bB (by simp only[h9,bS])),trivial⟩ rfl rfl
  ·refine go 8 ?_;exact a0h ⟨rfl,rfl,(bB (by simp only[h9,bS])),trivial⟩ rfl rfl
 ·refine gC 0 (fun h5 p5=>?_) fun h5 p5=>?_
  ·refine go 9 ?_;exact q_v (congrArg (Value.int .i64) (by unfold b0H;rw[if_pos h5]))
  ·refine gC 9 (fun h15 p15=>?_) fun h15 p15=>?_
   ·refine go 9 ?_;exact q_v (congrArg (Value.int .i64) (by unfold b0H;rw[if_neg (by rw[h5];decide),if_pos p15]))
   ·refine go 10 ?_;exact q_v (congrArg (Value.int .i64) (by unfold b0H;rw[if_neg (by rw[h5];decide),if_neg p15]))
theorem b3a (I:IMap) (N:Nat) (ih:∀(f:Fm),cntN f≤N→∀vs,FmRd I vs f→∀m:Int,0≤m→m≤1000→FnV prog 108 #[.agg vs.toArray,.int .i64 (m)] I (.int .i64 (nodesF f m))) (f:Fm) (hN:cntN f≤N+1) (vs:List Value) (hr:FmRd I vs f) (m:Int) (h0:0≤m) (h1:m≤1000) :
    FnV prog 108 #[.agg vs.toArray,.int .i64 (m)] I (.int .i64 (nodesF f m)):=by
 obtain⟨s,rfl,hs⟩:=a2w hr;obtain⟨A,c0,rfl,hA,hc,hm⟩:=hs;refine enter func108 call108 rfl ntmps108 rfl fun w0=>?_;refine go 4 fun g2=>?_
 refine go 18 ?_;refine a0a ?_
 refine a1i ((0:Nat)) ((1:Int)) (fun i n=>I)
  (fun i n=>[(1,.int .i64 (m)),(5,.int .i64 (n)),(9,.slice A f.kids.length c0),(10,.int .i64 (f.kids.length:Int)),(11,.int .i64 ((i:Nat):Int))])
  (fun i n=>[])
  (fun i n=>i≤f.kids.length∧(1≤n∧n≤m+1)∧nodesL (f.kids.drop i) n m=nodesF f m)
  (fun i n=>f.kids.length-i) ⟨Nat.zero_le _,⟨oM,oM⟩,a9P⟩ rfl sb rfl ?_
 intro i n ⟨hi,hn,hq⟩;refine gC 6 (fun h12 p12=>?_) fun h12 p12=>?_
 ·have hlt:i<f.kids.length:=oM;refine go 6 ?_;obtain⟨b13,o13,w13,e13,c13,r13⟩:=RdA.at_ hA (i:=i) oM;replace r13:=a2w r13;obtain⟨s13,rfl,hs13⟩:=r13;refine go 4 fun g7=>?_
  refine go 1 ?_;refine a1A _ he rfl rfl rfl rfl rfl (Enc.one (α:=Fm) (a1E hs13)) ?_;refine gC 10 (fun h17 p17=>?_) fun h17 p17=>?_
  ·refine go 15 ?_;exact q_v (congrArg (Value.int .i64) (b1f hlt hq p17))
  ·have hkn:=b2i f.kids[i] (m-n) oM;refine go 9 ?_;refine a0x (ih f.kids[i] (by have:=a1N (List.getElem_mem hlt);omega) _ (a1E hs13) _ oM oM) rfl rfl ?_;refine go 10 ?_;refine a0a ?_;exact a0t (i+1) (_) ⟨oM,oM,b1e hlt hq p17⟩ oM rfl sb rfl
 ·refine go 13 ?_;exact q_v (congrArg (Value.int .i64) (b3x oM hq))
theorem c8j (I:IMap) (f:Fm) (vs:List Value) (hr:FmRd I vs f) (m:Int) (h0:0≤m) (h1:m≤1000):FnV prog 108 #[.agg vs.toArray,.int .i64 (m)] I (.int .i64 (nodesF f m)):=by
 have key:∀(N:Nat) (f:Fm),cntN f≤N→∀vs,FmRd I vs f→∀m:Int,0≤m→m≤1000→FnV prog 108 #[.agg vs.toArray,.int .i64 (m)] I (.int .i64 (nodesF f m)):=by
  intro N
  induction N with
  |zero=>intro f hN;exact absurd hN (by cases f;simp[cntN])
  |succ N ih=>intro f hN vs hr m h0 h1;exact b3a I N ih f hN vs hr m h0 h1
 exact key (cntN f) f (Nat.le_refl _) vs hr m h0 h1
theorem b3b (I:IMap) (N:Nat) (ih:∀(f:Fm),cntN f≤N→∀vs,FmRd I vs f→FnV prog 109 #[.agg vs.toArray] I (.bool (rightF f))) (f:Fm) (hN:cntN f≤N+1) (vs:List Value) (hr:FmRd I vs f) :
    FnV prog 109 #[.agg vs.toArray] I (.bool (rightF f)):=by
 obtain⟨s,rfl,hs⟩:=a2w hr;obtain⟨A,c0,rfl,hA,hc,hm⟩:=hs;refine enter func109 call109 rfl ntmps109 rfl fun w0=>?_;refine go 4 fun g1=>?_
 refine go 9 ?_;refine a3O (α:=Unit) (Ix:=(fun u=>I)) (Lx:=(fun u=>[(1,.pointer (some ⟨g1,0,none⟩)),(3,.int .i64 (a6D f.op))])) (Hx:=(fun u=>[.blk g1 27 [ci f.op,ci f.n,.slice A f.kids.length c0]])) (p:=(fun u=>b0w f=false)) ?_ ?_
 ·refine go 2 ?_;refine a1h (I':=I) (L':=[(1,.pointer (some ⟨g1,0,none⟩)),(3,.int .i64 (0)),(6,.bool (b0w f))]) (H':=[.blk g1 27 [ci f.op,ci f.n,.slice A f.kids.length c0]]) ?_ ?_
  ·refine gS 5 10 (fun h10 p10=>?_) fun h10 p10=>?_
   ·refine go 7 ?_;exact a0h ⟨rfl,rfl,(bB (by simp only[b0w,h10,bS])),trivial⟩ rfl rfl
   ·refine go 7 ?_;exact a0h ⟨rfl,rfl,(bB (by simp only[b0w,h10,bS])),trivial⟩ rfl rfl
  ·refine gC 0 (fun h6 p6=>?_) fun h6 p6=>?_
   ·refine go 9 ?_;exact q_v (congrArg Value.bool (b7s h6).symm)
   ·refine gC 8 (fun h15 p15=>?_) fun h15 p15=>?_
    ·refine go 5 ?_;exact a1s () h6 ⟨rfl,(congrArg (fun z=>some (Value.int .i64 z)) (by unfold a6D;split<;>(try split)<;>omega)),trivial⟩ rfl rfl
    ·refine gC 8 (fun h19 p19=>?_) fun h19 p19=>?_
     ·refine go 5 ?_;exact a1s () h6 ⟨rfl,(congrArg (fun z=>some (Value.int .i64 z)) (by unfold a6D;split<;>(try split)<;>omega)),trivial⟩ rfl rfl
     ·refine go 3 ?_;exact a1s () h6 ⟨rfl,(congrArg (fun z=>some (Value.int .i64 z)) (by unfold a6D;split<;>(try split)<;>omega)),trivial⟩ rfl rfl
 ·intro u h6;refine go 2 ?_;refine a1h (I':=I) (L':=[(1,.pointer (some ⟨g1,0,none⟩)),(47,.bool (a8x f))]) (H':=[.blk g1 27 [ci f.op,ci f.n,.slice A f.kids.length c0]]) ?_ ?_
  ·refine gS 7 28 (fun h28 p28=>?_) fun h28 p28=>?_
   ·refine go 21 ?_;exact a0h ⟨rfl,(bB (by simp only[a8x,h28,bS])),trivial⟩ rfl rfl
   ·refine gS 5 33 (fun h33 p33=>?_) fun h33 p33=>?_
    ·refine go 16 ?_;exact a0h ⟨rfl,(bB (by simp only[a8x,h28,h33,bS])),trivial⟩ rfl rfl
    ·refine gS 5 38 (fun h38 p38=>?_) fun h38 p38=>?_
     ·refine go 11 ?_;exact a0h ⟨rfl,(bB (by simp only[a8x,h28,h33,h38,bS])),trivial⟩ rfl rfl
     ·refine gS 4 42 (fun h42 p42=>?_) fun h42 p42=>?_
      ·refine go 7 ?_;exact a0h ⟨rfl,(bB (by simp only[a8x,h28,h33,h38,h42,bS])),trivial⟩ rfl rfl
      ·refine go 7 ?_;exact a0h ⟨rfl,(bB (by simp only[a8x,h28,h33,h38,h42,bS])),trivial⟩ rfl rfl
  ·refine gC 0 (fun h47 p47=>?_) fun h47 p47=>?_
   ·refine go 8 ?_;exact q_v (congrArg Value.bool (b7t h47).symm)
   ·refine go 12 ?_;refine a0a ?_
    refine a0w (α:=Nat) 0 (fun i=>I)
     (fun i=>[(49,.slice A f.kids.length c0),(50,.int .i64 (f.kids.length:Int)),(51,.int .i64 ((i:Nat):Int))])
     (fun i=>[])
     (fun i=>i≤f.kids.length∧a2m (fun _ k=>rightF k) f.kids i=true)
     (fun i=>f.kids.length-i) ⟨Nat.zero_le _,rfl⟩ rfl sb rfl ?_
    intro i ⟨hi,hn⟩;refine gC 6 (fun h52 p52=>?_) fun h52 p52=>?_
    ·have hlt:i<f.kids.length:=oM;refine go 6 ?_;obtain⟨b53,o53,w53,e53,c53,r53⟩:=RdA.at_ hA (i:=i) oM;replace r53:=a2w r53;obtain⟨s53,rfl,hs53⟩:=r53;refine go 4 fun g5=>?_
     refine go 1 ?_;refine a1A _ he rfl rfl rfl rfl rfl (Enc.one (α:=Fm) (a1E hs53)) ?_;refine go 6 ?_;refine cV (ih f.kids[i] (by have:=a1N (List.getElem_mem hlt);omega) _ (a1E hs53)) ?_;refine gC 3 (fun h57 p57=>?_) fun h57 p57=>?_
     ·refine go 12 ?_;exact q_v (congrArg Value.bool (b3V hlt (by simpa using h57)).symm)
     ·refine go 8 ?_;refine a0a ?_;exact a0s (i+1) ⟨oM,a0T (f:=fun _ k=>rightF k) hn hlt (by simpa using h57)⟩ oM rfl sb rfl
    ·refine go 12 ?_;have e:i=f.kids.length:=oM;subst e;exact q_v (congrArg Value.bool (b3T h6 h47 hn).symm)
theorem c8k (I:IMap) (f:Fm) (vs:List Value) (hr:FmRd I vs f):FnV prog 109 #[.agg vs.toArray] I (.bool (rightF f)):=by
 have key:∀(N:Nat) (f:Fm),cntN f≤N→∀vs,FmRd I vs f→FnV prog 109 #[.agg vs.toArray] I (.bool (rightF f)):=by
  intro N
  induction N with
  |zero=>intro f hN;exact absurd hN (by cases f;simp[cntN])
  |succ N ih=>intro f hN vs hr;exact b3b I N ih f hN vs hr
 exact key (cntN f) f (Nat.le_refl _) vs hr
theorem c0G (I:IMap) (f:Fm) (vs:List Value) (hr:FmRd I vs f) :
    FnV prog 74 #[.agg vs.toArray] I (.bool (a1p f)):=by
 have hl:=Enc.len (α:=Fm) hr;refine enter func74 call74 rfl ntmps74 rfl fun w0=>?_;refine go 4 fun g1=>?_
 refine go 5 ?_;refine o_v rfl (a4n m0 he rfl hl) ?_;refine go 1 ?_;refine cV (c8j _ f _ hr 60 oM oM) ?_;refine gS 2 6 (fun h6 p6=>?_) fun h6 p6=>?_
 ·refine a0P (a0z rfl rfl h6 (a0k rfl (a4n m0 he rfl hl) ?_));refine go 1 ?_;refine a0z rfl rfl h6 (a0x (c8k _ f _ hr) rfl rfl ?_);refine go 6 ?_;exact q_v (congrArg Value.bool (by simp only[a1p,h6,bS]))
 ·refine go 8 ?_;exact q_v (congrArg Value.bool (by simp only[a1p,h6,bS]))
theorem c0F (I:IMap) (a b:Int) (ha : -(1000000000000:Int)≤a∧a≤(1000000000000:Int)) :
    FnV prog 291 #[.int .i64 (a),.int .i64 (b)] I (.int .i64 (a2O a b)):=by
 refine enter func291 call291 rfl ntmps291 rfl fun w0=>?_;refine gC 12 (fun h7 p7=>?_) fun h7 p7=>?_
 ·refine go 8 ?_;exact q_v (congrArg (Value.int .i64) (c0E p7).symm)
 ·have htd:=c2M (a:=a) (b:=b);refine go 6 ?_;refine o_v rfl (d0k rfl rfl p7 ⟨oM,oM⟩) ?_;refine go 5 ?_;refine a1h (I':=I) (L':=[(5,.int .i64 (a.tdiv b)),(22,.bool (a6H a b))]) (H':=[]) ?_ ?_
  ·refine go 3 ?_;refine o_v rfl (b2E rfl rfl ⟨oM,oM⟩) ?_;refine gS 3 16 (fun h16 p16=>?_) fun h16 p16=>?_
   ·refine go 4 ?_;refine a0P (a0z rfl rfl h16 (a0k rfl (b0p he rfl rfl) ?_));refine go 3 ?_;exact a0h ⟨rfl,(bB (by simp only[a6H,h7,h16,bS])),trivial⟩ rfl rfl
   ·refine go 8 ?_;exact a0h ⟨rfl,(bB (by simp only[a6H,h7,h16,bS])),trivial⟩ rfl rfl
  ·refine gC 0 (fun h22 p22=>?_) fun h22 p22=>?_
   ·refine go 14 ?_;exact q_v (congrArg (Value.int .i64) (c0D p7 h22))
   ·refine go 10 ?_;exact q_v (congrArg (Value.int .i64) (c0C p7 h22))
theorem b6k (I:IMap) (a:Ivl) (ha:a1D a=true) (low high:Int) (g2 g5:Nat) (A0:Option Addr) (k0:Nat) (l:List Ivl) (hl:l.length≤1000) :
    FnH prog 290 #[.int .i64 (low),.int .i64 (high),.pointer (some ⟨g2,0,none⟩),.pointer (some ⟨g5,0,none⟩)] I [.blk g2 34 a.cells,.blk g5 188 [.slice A0 l.length k0],.row (.slice A0 l.length k0) 34 2 (l).length (c3u (l))] (fun u _ H2=>u = .tuple #[]∧∃A k,H2=[.blk g2 34 a.cells,.blk g5 188 [.slice A (l++a2u a low high).length k],.row (.slice A (l++a2u a low high).length k) 34 2 (l++a2u a low high).length (c3u (l++a2u a low high))]):=by
 refine enter func290 call290 rfl ntmps290 rfl fun w0=>?_;refine gC 7 (fun h12 p12=>?_) fun h12 p12=>?_
 ·have hsg:a2u a low high=[a6V a low,a6V a high]:=if_pos p12;refine go 6 fun v15=>?_
  refine a0d (l:=[low,high]) rfl rfl ((.cons rfl (.one rfl))) fun I15 j15 R15=>?_;obtain⟨A15,c15,rfl,hA15,_,_⟩:=R15;refine go 5 ?_
  refine a2B ((0:Nat)) (A0) (k0) (fun i A1 k1=>I15)
   (fun i A1 k1=>[(2,.pointer (some ⟨g2,0,none⟩)),(3,.pointer (some ⟨g5,0,none⟩)),(15,.slice A15 [low,high].length c15),(16,.int .i64 ([low,high].length:Int)),(17,.int .i64 ((i:Nat):Int))])
   (fun i A1 k1=>[.blk g2 34 a.cells,.blk g5 188 [.slice A1 (l++[a6V a low,a6V a high].take i).length k1],.row (.slice A1 (l++[a6V a low,a6V a high].take i).length k1) 34 2 (l++[a6V a low,a6V a high].take i).length (c3u (l++[a6V a low,a6V a high].take i))])
   (fun i A1 k1=>i≤2)
   (fun i A1 k1=>2-i) oM rfl sb (by simp) ?_
  intro i A1 k1 hi;refine gC 6 (fun h18 p18=>?_) fun h18 p18=>?_
  ·have hlt:i<2:=by simp at p18;omega
   have hai:=a0V.1 ha;obtain⟨d,hd⟩:∃d,[low,high][i]=d:=⟨_,rfl⟩
   have hst:[a6V a low,a6V a high].take (i+1)=[a6V a low,a6V a high].take i++[a6V a d]:=by
     have h2:i=0∨i=1:=oM
     rcases h2 with rfl|rfl<;>(simp at hd;subst hd;rfl)
   refine go 6 ?_;obtain⟨b19,o19,w19,e19,c19,r19⟩:=RdA.at_ hA15 (i:=i) oM;obtain rfl:=r19;refine go 1 ?_;refine o_v rfl (OV.cast (u:=.int .i64 (d)) (a1X he rfl (c19 0 _ rfl)) (congrArg (Value.int .i64) hd)) ?_;refine go 5 ?_;refine dG 0 3 ?_;refine dG 4 3 ?_;refine dH 3 0 ?_;refine cV (c0F _ a.low d oM) ?_;refine dH 7 0 ?_;refine cV (c0F _ a.high d oM) ?_;refine dG 8 2 ?_;refine go 6 ?_;refine o_v rfl (OV.cast (u:=.int .i64 (min (a2O a.low d) (a2O a.high d))) (a3x rfl rfl) (congrArg (Value.int .i64) oM)) ?_;refine go 2 ?_;refine o_v rfl (OV.cast (u:=.int .i64 (max (a2O a.low d) (a2O a.high d))) (a2a rfl rfl) (congrArg (Value.int .i64) oM)) ?_;refine go 3 fun v37=>?_
   refine go 1 ?_;refine a0p ?_;refine a0o he he rfl rfl rfl rfl rfl (by simp;omega) (by simp;omega) rfl fun v38=>?_;refine a2I fun A38 c38 hv38=>?_;subst hv38;refine go 1 ?_;refine a0p ?_;refine go 9 ?_;refine a0c ?_;refine a0a ?_;refine a0b ?_;refine a0b ?_;refine a0c ?_;exact a1r (i+1) (A38) (c38) oM oM rfl sb (by rw[hst];simp[c4z,c4A];exact⟨oM,rfl⟩)
  ·refine go 5 ?_;have e:i=2:=(by simp at p18;omega);subst e;exact a4N (fun _ m=>m) ⟨rfl,A1,k1,by rw[hsg];rfl⟩
 ·have hsg:a2u a low high=[]:=if_neg p12;refine go 2 ?_;exact a4N (fun _ m=>m) ⟨rfl,A0,k0,by rw[hsg,List.append_nil]⟩
theorem c4r (I:IMap) (a b:Ivl) (ha:a1D a=true) (hb:a1D b=true) :
    FnV prog 287 #[.agg a.cells.toArray,.agg b.cells.toArray] I (.agg (c0e a b).cells.toArray):=by
 obtain⟨q0,hq0⟩:∃q0,(if b.low≤0∧b.high≥0 then [a3n] else [])=q0:=⟨_,rfl⟩;have hQ:a3y a b=q0++a2u a (max b.low 1) b.high++a2u a b.low (min b.high (-1)):=by rw[←hq0];rfl
 have hl0:q0.length≤1:=by rw[←hq0];split<;>simp
 have hs1:=b1q a (max b.low 1) b.high;have hqn:0<(a3y a b).length:=List.length_pos_iff.2 (b7i (a0V.1 hb).2.1)
 have hql:(a3y a b).length≤5:=by
   rw[hQ]
   simp only[List.length_append]
   have:=b1q a b.low (min b.high (-1))
   omega
 refine enter func287 call287 rfl ntmps287 rfl fun w0=>?_;refine go 4 fun g2=>?_
 refine go 2 fun g3=>?_
 refine go 2 fun g4=>?_
 refine go 6 fun g5=>?_
 refine go 3 ?_;refine a9s (Ix:=(fun A k=>I)) (Lx:=(fun A k=>[(2,.pointer (some ⟨g2,0,none⟩)),(3,.pointer (some ⟨g3,0,none⟩)),(4,.pointer (some ⟨g4,0,none⟩)),(5,.pointer (some ⟨g5,0,none⟩))])) (Hx:=(fun A k=>[.blk g2 34 a.cells,.blk g5 188 [.slice A q0.length k],.row (.slice A q0.length k) 34 2 (q0).length (c3u (q0)),.blk g3 34 b.cells,.blk g4 34 [.int .i64 (0),.int .i64 (0)]])) (p:=(fun A k=>True)) ?_ ?_
 ·refine go 1 ?_;refine a1h (I':=I) (L':=[(2,.pointer (some ⟨g2,0,none⟩)),(3,.pointer (some ⟨g3,0,none⟩)),(4,.pointer (some ⟨g4,0,none⟩)),(5,.pointer (some ⟨g5,0,none⟩)),(17,.bool (decide (b.low≤0)&&decide (b.high≥0)))]) (H':=[.blk g5 188 [.slice none 0 0],.blk g4 34 [.int .i64 (0),.int .i64 (0)],.blk g3 34 b.cells,.blk g2 34 a.cells]) ?_ ?_
  ·refine gS 5 13 (fun h13 p13=>?_) fun h13 p13=>?_
   ·refine go 6 ?_;exact a0h ⟨rfl,rfl,rfl,rfl,(bB (by simp only[h13,bS])),trivial⟩ rfl rfl
   ·refine go 6 ?_;exact a0h ⟨rfl,rfl,rfl,rfl,(bB (by simp only[h13,bS])),trivial⟩ rfl rfl
  ·refine gC 0 (fun h17 p17=>?_) fun h17 p17=>?_
   ·have hq1:q0=[a3n]:=by rw[←hq0,if_pos p17]
    refine go 1 ?_;refine a0G 34 2 ?_;refine go 4 fun v20=>?_
    refine go 1 ?_;refine a0b ?_;refine a0o he he rfl rfl rfl rfl rfl (by simp) (by simp) rfl fun v21=>?_;refine a2I fun A21 c21 hv21=>?_;subst hv21;refine go 1 ?_;refine a0c ?_;refine go 3 ?_;refine a0c ?_;refine a0a ?_;refine a0c ?_;refine a0p ?_;refine a0p ?_;refine a0p ?_;refine a0A ?_;exact a3G (A21) (c21) trivial sb (by rw[hq1];rfl) rfl
   ·have hq1:q0=[]:=by rw[←hq0,if_neg (by simpa using h17)]
    refine a0G 34 2 ?_;refine go 2 ?_;refine a0c ?_;refine a0p ?_;refine a0c ?_;refine a0p ?_;refine a0A ?_;exact a3G (none) (0) trivial sb (by rw[hq1];rfl) rfl
 ·intro A k _;refine go 11 ?_;refine o_v rfl (OV.cast (u:=.int .i64 (max b.low 1)) (a2a rfl rfl) (congrArg (Value.int .i64) oM)) ?_;refine go 3 ?_;refine a0c ?_;refine a0c ?_;refine a0c ?_;refine b6N (b6k _ a ha (max b.low 1) b.high g2 g5 _ _ (q0) (by first|omega|(simp only[List.length_append];omega))) rfl rfl fun u29 I29 H29 j29 q29=>?_;obtain⟨rfl,A29,k29,rfl⟩:=q29;refine b7H ?_;refine go 9 ?_;refine o_v rfl (OV.cast (u:=.int .i64 (min b.high (-1))) (a3x rfl rfl) (congrArg (Value.int .i64) oM)) ?_;refine go 1 ?_;refine a0c ?_;refine a0c ?_;refine a0c ?_;refine b6N (b6k _ a ha b.low (min b.high (-1)) g2 g5 _ _ (q0++a2u a (max b.low 1) b.high) (by first|omega|(simp only[List.length_append];omega))) rfl rfl fun u36 I36 H36 j36 q36=>?_;obtain⟨rfl,A36,k36,rfl⟩:=q36;refine b7H ?_;rw[←hQ];refine a0c ?_;refine a0d (l:=a3y a b) rfl rfl (b3m _) fun I37 j37 R37=>?_;have hA37:=R37.rda;refine go 5 ?_;obtain⟨b38,o38,w38,e38,c38,r38⟩:=RdA.at_ hA37 (i:=0) hqn;obtain rfl:=r38;refine o_v rfl (a0i he rfl rfl e38 (0) rfl hqn) ?_;refine go 3 fun g7=>?_
  refine go 13 ?_;refine a0b ?_;refine a0a ?_;refine a0b ?_;refine a0a ?_;refine a0b ?_;refine a0a ?_
  refine a1i ((0:Nat)) ((a3y a b)[0]) (fun i z=>I37)
   (fun i z=>[(4,.pointer (some ⟨g4,0,none⟩)),(7,.pointer (some ⟨g7,0,none⟩)),(40,.slice A36 (a3y a b).length k36),(41,.int .i64 ((a3y a b).length:Int)),(42,.int .i64 ((i:Nat):Int))])
   (fun i z=>[.blk g7 34 z.cells,.blk g4 34 [.int .i64 (0),.int .i64 (0)]])
   (fun i z=>i≤(a3y a b).length∧((a3y a b).take i).foldl a2y (a3y a b)[0]=z)
   (fun i z=>(a3y a b).length-i) ⟨Nat.zero_le _,rfl⟩ rfl sb rfl ?_
  intro i z ⟨hi,hz⟩;refine gC 6 (fun h43 p43=>?_) fun h43 p43=>?_
  ·have hlt:i<(a3y a b).length:=oM;refine go 6 ?_;obtain⟨b44,o44,w44,e44,c44,r44⟩:=RdA.at_ hA37 (i:=i) oM;obtain rfl:=r44;refine go 4 fun g9=>?_
   refine go 8 ?_;refine cV (c1e _ z (a3y a b)[i]) ?_;refine go 1 ?_;refine a0b ?_;refine go 9 ?_;refine a0b ?_;refine a0a ?_;exact a0t (i+1) (_) ⟨oM,by rw[b8l hlt,hz]⟩ oM rfl sb rfl
  ·refine go 9 ?_;refine a0b ?_;refine go 5 ?_;have e:i=(a3y a b).length:=oM;subst e;rw[List.take_length]at hz
   exact b5v (by rw[←hz,d1g hqn])
theorem c9p (I:IMap) (u:Use) (op:Int) (a b:Ivl) (ha:a1D a=true) (hb:a1D b=true) :
    FnV prog 281 #[.agg u.cells.toArray,.int .i64 (op),.agg a.cells.toArray,.agg b.cells.toArray] I (.agg (a5H op a b).cells.toArray):=by
 refine enter func281 call281 rfl ntmps281 rfl fun w0=>?_;refine go 4 fun g4=>?_
 refine go 2 fun g6=>?_
 refine go 2 fun g7=>?_
 refine go 2 fun g8=>?_
 refine gC 15 (fun h10 p10=>?_) fun h10 p10=>?_
 ·refine go 5 ?_;refine cV (a2f _ a b) ?_;refine go 8 ?_;exact q_v (by unfold a5H;repeat (first|rw[if_pos (by assumption)] | rw[if_neg (by assumption)] | rfl))
 ·refine gC 6 (fun h15 p15=>?_) fun h15 p15=>?_
  ·refine go 5 ?_;refine cV (d3R _ a b) ?_;refine go 8 ?_;exact q_v (by unfold a5H;repeat (first|rw[if_pos (by assumption)] | rw[if_neg (by assumption)] | rfl))
  ·refine gC 6 (fun h20 p20=>?_) fun h20 p20=>?_
   ·refine go 5 ?_;refine cV (d3Q _ a b) ?_;refine go 8 ?_;exact q_v (by unfold a5H;repeat (first|rw[if_pos (by assumption)] | rw[if_neg (by assumption)] | rfl))
   ·refine gC 6 (fun h25 p25=>?_) fun h25 p25=>?_
    ·refine go 6 ?_;refine o_v rfl (OV.cast (u:=.int .i64 (min a.low b.low)) (a3x rfl rfl) (congrArg (Value.int .i64) oM)) ?_;refine go 4 ?_;refine o_v rfl (OV.cast (u:=.int .i64 (min a.high b.high)) (a3x rfl rfl) (congrArg (Value.int .i64) oM)) ?_;refine go 9 ?_;exact q_v (by unfold a5H;repeat (first|rw[if_pos (by assumption)] | rw[if_neg (by assumption)] | rfl))
    ·refine gC 6 (fun h38 p38=>?_) fun h38 p38=>?_
     ·refine go 6 ?_;refine o_v rfl (OV.cast (u:=.int .i64 (max a.low b.low)) (a2a rfl rfl) (congrArg (Value.int .i64) oM)) ?_;refine go 4 ?_;refine o_v rfl (OV.cast (u:=.int .i64 (max a.high b.high)) (a2a rfl rfl) (congrArg (Value.int .i64) oM)) ?_;refine go 9 ?_;exact q_v (by unfold a5H;repeat (first|rw[if_pos (by assumption)] | rw[if_neg (by assumption)] | rfl))
     ·refine go 8 ?_;refine cV (c4r _ a b ha hb) ?_;refine go 6 ?_;exact q_v (by unfold a5H;repeat (first|rw[if_pos (by assumption)] | rw[if_neg (by assumption)] | rfl))
theorem c5C (I:IMap) (u:Use) (a b c:Ivl) :
    FnV prog 282 #[.agg u.cells.toArray,.agg a.cells.toArray,.agg b.cells.toArray,.agg c.cells.toArray] I (.agg (a1n a b c).cells.toArray):=by
 refine enter func282 call282 rfl ntmps282 rfl fun w0=>?_;refine go 4 fun g4=>?_
 refine go 2 fun g5=>?_
 refine go 2 fun g6=>?_
 refine go 2 fun g7=>?_
 refine go 2 fun g8=>?_
 refine go 7 ?_;refine cV (d1A _ a 0) ?_;refine gC 9 (fun h11 p11=>?_) fun h11 p11=>?_
 ·refine go 11 ?_;exact q_v (by unfold a1n;repeat (first|rw[if_pos (by assumption)] | rw[if_neg (by assumption)] | rfl))
 ·refine gC 6 (fun h14 p14=>?_) fun h14 p14=>?_
  ·refine go 11 ?_;exact q_v (by unfold a1n;repeat (first|rw[if_pos (by assumption)] | rw[if_neg (by assumption)] | rfl))
  ·refine go 8 ?_;refine cV (c1e _ b c) ?_;refine go 6 ?_;exact q_v (by unfold a1n;repeat (first|rw[if_pos (by assumption)] | rw[if_neg (by assumption)] | rfl))
theorem c5D (I:IMap) (u:Use) (op:Int) :
    FnV prog 283 #[.agg u.cells.toArray,.int .i64 (op)] I (.agg (a4U u op).cells.toArray):=by
 refine enter func283 call283 rfl ntmps283 rfl fun w0=>?_;refine go 4 fun g2=>?_
 refine go 2 fun g4=>?_
 refine gC 15 (fun h6 p6=>?_) fun h6 p6=>?_
 ·refine go 4 ?_;refine o_v rfl (a0J (u.km.cells) m1 he rfl rfl rfl) ?_;refine go 8 ?_;exact q_v (by unfold a4U;repeat (first|rw[if_pos (by assumption)] | rw[if_neg (by assumption)] | rfl))
 ·refine gC 6 (fun h11 p11=>?_) fun h11 p11=>?_
  ·refine go 4 ?_;refine o_v rfl (a0J (u.cycles.cells) m1 he rfl rfl rfl) ?_;refine go 8 ?_;exact q_v (by unfold a4U;repeat (first|rw[if_pos (by assumption)] | rw[if_neg (by assumption)] | rfl))
  ·refine go 7 ?_;refine o_v rfl (a0J (u.load.cells) m1 he rfl rfl rfl) ?_;refine go 6 ?_;exact q_v (by unfold a4U;repeat (first|rw[if_pos (by assumption)] | rw[if_neg (by assumption)] | rfl))
theorem c5E (I:IMap) (u:Use) (n:Int) :
    FnV prog 284 #[.agg u.cells.toArray,.int .i64 (n)] I (.agg #[.int .i64 (n),.int .i64 (n)]):=by
 refine enter func284 call284 rfl ntmps284 rfl fun w0=>?_;refine go 4 fun g2=>?_
 refine go 2 fun g4=>?_
 refine go 13 ?_;exact q_v rfl
theorem b8k (I:IMap) (u:Use) (hu:a4E u=true) (N:Nat) (ih:∀(f:Fm),cntN f≤N→∀vs,FmRd I vs f→rightF f=true→FnV prog 130 #[.iface 191 (.agg u.cells.toArray),.agg vs.toArray] I (.agg (a0U u f).cells.toArray)) (f:Fm) (hN:cntN f≤N+1) (vs:List Value) (hr:FmRd I vs f) (hR:rightF f=true) :
    FnV prog 130 #[.iface 191 (.agg u.cells.toArray),.agg vs.toArray] I (.agg (a0U u f).cells.toArray):=by
 obtain⟨s,rfl,hs⟩:=a2w hr;obtain⟨A,c0,rfl,hA,hc,hm⟩:=hs;refine enter func130 call130 rfl ntmps130 rfl fun w0=>?_;refine go 4 fun g3=>?_
 refine go 2 fun g4=>?_
 refine gC 12 (fun h5 p5=>?_) fun h5 p5=>?_
 ·refine go 6 ?_;refine b6O he (c5E _ u f.n) rfl rfl rfl ?_;refine go 8 ?_;exact q_v (by rw[b7C hR p5];rfl)
 ·refine gC 8 (fun h13 p13=>?_) fun h13 p13=>?_
  ·refine go 6 ?_;refine b6O he (c5D _ u f.op) rfl rfl rfl ?_;refine go 8 ?_;exact q_v (by rw[a5C hR p5 p13])
  ·refine gC 8 (fun h21 p21=>?_) fun h21 p21=>?_
   ·have h3:=b8w hR p21;refine go 1 ?_;refine ds1 ?_;refine dG 0 4 ?_;obtain⟨b29,o29,w29,e29,c29,r29⟩:=RdA.at_ hA (i:=0) oM;replace r29:=a2w r29;obtain⟨s29,rfl,hs29⟩:=r29;refine a0F 4 rfl rfl (by kernel_rfl) rfl (.cons _ (.refl _)) rfl (a0i he rfl rfl e29 (0) rfl oM) ?_;refine dG 5 1 ?_;refine dG 7 3 ?_;obtain⟨b35,o35,w35,e35,c35,r35⟩:=RdA.at_ hA (i:=1) oM;replace r35:=a2w r35;obtain⟨s35,rfl,hs35⟩:=r35;refine a0F 10 rfl rfl (by kernel_rfl) rfl (.cons _ (.refl _)) rfl (a0i he rfl rfl e35 (1) rfl oM) ?_;refine dG 11 1 ?_;refine dG 13 3 ?_;obtain⟨b41,o41,w41,e41,c41,r41⟩:=RdA.at_ hA (i:=2) oM;replace r41:=a2w r41;obtain⟨s41,rfl,hs41⟩:=r41;refine a0F 16 rfl rfl (by kernel_rfl) rfl (.cons _ (.refl _)) rfl (a0i he rfl rfl e41 (2) rfl oM) ?_;refine dG 17 1 ?_;refine dG 19 1 ?_;refine a0F 20 rfl rfl (by kernel_rfl) rfl (.cons _ (.refl _)) rfl (b4j he rfl) ?_;refine dG 21 1 ?_;refine dH 6 0 ?_;refine cV (ih (f.kids[0]'oM) (by have:=a1N (List.getElem_mem (show 0<f.kids.length from oM));omega) _ (a1E hs29) (a0M hR 0 _)) ?_;refine dH 12 0 ?_;refine cV (ih (f.kids[1]'oM) (by have:=a1N (List.getElem_mem (show 1<f.kids.length from oM));omega) _ (a1E hs35) (a0M hR 1 _)) ?_;refine dH 18 0 ?_;refine cV (ih (f.kids[2]'oM) (by have:=a1N (List.getElem_mem (show 2<f.kids.length from oM));omega) _ (a1E hs41) (a0M hR 2 _)) ?_;refine dH 22 0 ?_;refine b6O he (c5C _ u _ _ _) rfl rfl rfl ?_;refine dH 23 0 ?_;refine go 8 ?_;exact q_v (by rw[a1F h3])
   ·have h2:=c8z hR p21 p13;refine go 4 ?_;refine ds1 ?_;refine dG 0 6 ?_;obtain⟨b54,o54,w54,e54,c54,r54⟩:=RdA.at_ hA (i:=0) oM;replace r54:=a2w r54;obtain⟨s54,rfl,hs54⟩:=r54;refine a0F 6 rfl rfl (by kernel_rfl) rfl (.cons _ (.refl _)) rfl (a0i he rfl rfl e54 (0) rfl oM) ?_;refine dG 7 1 ?_;refine dG 9 3 ?_;obtain⟨b60,o60,w60,e60,c60,r60⟩:=RdA.at_ hA (i:=1) oM;replace r60:=a2w r60;obtain⟨s60,rfl,hs60⟩:=r60;refine a0F 12 rfl rfl (by kernel_rfl) rfl (.cons _ (.refl _)) rfl (a0i he rfl rfl e60 (1) rfl oM) ?_;refine dG 13 1 ?_;refine dG 15 1 ?_;refine a0F 16 rfl rfl (by kernel_rfl) rfl (.cons _ (.refl _)) rfl (b4j he rfl) ?_;refine dG 17 1 ?_;refine dH 8 0 ?_;refine cV (ih (f.kids[0]'oM) (by have:=a1N (List.getElem_mem (show 0<f.kids.length from oM));omega) _ (a1E hs54) (a0M hR 0 _)) ?_;refine dH 14 0 ?_;refine cV (ih (f.kids[1]'oM) (by have:=a1N (List.getElem_mem (show 1<f.kids.length from oM));omega) _ (a1E hs60) (a0M hR 1 _)) ?_;refine dH 18 0 ?_;refine b6O he (c9p _ u _ _ _ (a3l hu _ (a0M hR 0 oM)) (a3l hu _ (a0M hR 1 oM))) rfl rfl rfl ?_;refine dH 19 0 ?_;refine go 6 ?_;exact q_v (by rw[b7D h2])
theorem d3L (I:IMap) (u:Use) (hu:a4E u=true) (f:Fm) (vs:List Value) (hr:FmRd I vs f) (hR:rightF f=true):FnV prog 130 #[.iface 191 (.agg u.cells.toArray),.agg vs.toArray] I (.agg (a0U u f).cells.toArray):=by
 have key:∀(N:Nat) (f:Fm),cntN f≤N→∀vs,FmRd I vs f→rightF f=true→FnV prog 130 #[.iface 191 (.agg u.cells.toArray),.agg vs.toArray] I (.agg (a0U u f).cells.toArray):=by
  intro N
  induction N with
  |zero=>intro f hN;exact absurd hN (by cases f;simp[cntN])
  |succ N ih=>intro f hN vs hr hR;exact b8k I u hu N ih f hN vs hr hR
 exact key (cntN f) f (Nat.le_refl _) vs hr hR
theorem c4q (I:IMap) (f:Fm) (vs:List Value) (hr:FmRd I vs f) (u:Use) :
    FnV prog 81 #[.agg vs.toArray,.agg u.cells.toArray] I (.agg (a6G f u).cells.toArray):=by
 obtain⟨s,rfl,hs⟩:=a2w hr;obtain⟨A,c0,rfl,hA,hc,hm⟩:=hs;refine enter func81 call81 rfl ntmps81 rfl fun w0=>?_;refine go 4 fun g2=>?_
 refine go 2 fun g3=>?_
 refine go 2 fun g4=>?_
 refine go 6 ?_;refine o_v rfl (a0J (u.km.cells) m1 he rfl rfl rfl) ?_;refine go 1 ?_;refine o_v rfl (a0J (u.cycles.cells) m1 he rfl rfl rfl) ?_;refine go 1 ?_;refine o_v rfl (a0J (u.load.cells) m1 he rfl rfl rfl) ?_;refine go 2 fun v14=>?_
 refine a0d (l:=[u.km,u.cycles,u.load]) rfl rfl ((b3m [u.km,u.cycles,u.load])) fun I14 j14 R14=>?_;have hr:=hr.le j14;obtain⟨A14,c14,rfl,hA14,_,_⟩:=R14;refine go 5 ?_;refine a0b ?_;refine a0c ?_
 refine a0w (α:=Nat) 0 (fun i=>I14)
  (fun i=>[(2,.pointer (some ⟨g2,0,none⟩)),(3,.pointer (some ⟨g3,0,none⟩)),(4,.pointer (some ⟨g4,0,none⟩)),(14,.slice A14 [u.km,u.cycles,u.load].length c14),(15,.int .i64 ([u.km,u.cycles,u.load].length:Int)),(16,.int .i64 ((i:Nat):Int))])
  (fun i=>[.blk g2 27 [ci f.op,ci f.n,.slice A f.kids.length c0],.blk g3 70 u.cells,.blk g4 34 [.int .i64 (0),.int .i64 (0)]])
  (fun i=>i≤3∧a2m (fun _ q=>a6C q) [u.km,u.cycles,u.load] i=true)
  (fun i=>3-i) ⟨oM,rfl⟩ rfl sb rfl ?_
 intro i ⟨hi,hn⟩;refine gC 6 (fun h17 p17=>?_) fun h17 p17=>?_
 ·have hlt:i<3:=by simp at p17;omega
  refine go 6 ?_;obtain⟨b18,o18,w18,e18,c18,r18⟩:=RdA.at_ hA14 (i:=i) oM;obtain rfl:=r18;refine go 4 fun g6=>?_
  refine go 5 ?_;refine a1h (I':=I14) (L':=[(2,.pointer (some ⟨g2,0,none⟩)),(3,.pointer (some ⟨g3,0,none⟩)),(4,.pointer (some ⟨g4,0,none⟩)),(14,.slice A14 [u.km,u.cycles,u.load].length c14),(15,.int .i64 ([u.km,u.cycles,u.load].length:Int)),(16,.int .i64 ((i:Nat):Int)),(6,.pointer (some ⟨g6,0,none⟩)),(34,.bool (!a6C [u.km,u.cycles,u.load][i]))]) (H':=[.blk g6 34 [u.km,u.cycles,u.load][i].cells,.blk g2 27 [ci f.op,ci f.n,.slice A f.kids.length c0],.blk g3 70 u.cells,.blk g4 34 [.int .i64 (0),.int .i64 (0)]]) ?_ ?_
  ·refine gS 5 23 (fun h23 p23=>?_) fun h23 p23=>?_
   ·refine go 13 ?_;exact a0h ⟨rfl,rfl,rfl,rfl,rfl,rfl,rfl,(bB (by simp only[a6C,Bool.not_not,h17,h23,bS])),trivial⟩ rfl rfl
   ·refine gS 7 30 (fun h30 p30=>?_) fun h30 p30=>?_
    ·refine go 6 ?_;exact a0h ⟨rfl,rfl,rfl,rfl,rfl,rfl,rfl,(bB (by simp only[a6C,Bool.not_not,h17,h23,h30,bS])),trivial⟩ rfl rfl
    ·refine go 6 ?_;exact a0h ⟨rfl,rfl,rfl,rfl,rfl,rfl,rfl,(bB (by simp only[a6C,Bool.not_not,h17,h23,h30,bS])),trivial⟩ rfl rfl
  ·refine gC 0 (fun h34 p34=>?_) fun h34 p34=>?_
   ·refine go 4 ?_;refine a0p ?_;refine go 10 ?_;exact b5v (by rw[c6E (d2I hlt (by simpa using h34))];rfl)
   ·refine go 8 ?_;refine a0a ?_;exact a0s (i+1) ⟨oM,a0T (f:=fun _ q=>a6C q) hn (show i<[u.km,u.cycles,u.load].length from hlt) (by simpa using h34)⟩ oM rfl sb rfl
 ·have e:i=3:=(by simp at p17;omega);subst e;have hu:a4E u=true:=d0a hn;refine go 10 ?_;refine cV (c0G _ f _ hr) ?_;refine gC 3 (fun h39 p39=>?_) fun h39 p39=>?_
  ·refine go 4 ?_;refine a0c ?_;refine go 6 ?_;exact b5v (by rw[c0a hu (by simpa using h39)];rfl)
  ·have hv:a1p f=true:=by simpa using h39
   refine go 6 ?_;refine o_v rfl (d0e T.stk_191 rfl) ?_;refine go 2 ?_;refine cV (d3L _ u hu f _ hr (by simp only[a1p,Bool.and_eq_true]at hv;exact hv.2)) ?_;refine go 2 fun g7=>?_
   refine go 8 ?_;refine o_v rfl (OV.cast (u:=.int .i64 (max 0 (a0U u f).low)) (a2a rfl rfl) (congrArg (Value.int .i64) oM)) ?_;refine go 2 ?_;refine o_v rfl (OV.cast (u:=.int .i64 (max 0 (a0U u f).high)) (a2a rfl rfl) (congrArg (Value.int .i64) oM)) ?_;refine go 2 ?_;refine a0p ?_;refine go 5 ?_;exact b5v (by rw[c0b hu hv];rfl)
end Go.Proofs.YtkndpfncklhhlaaGreat
set_option linter.all false
namespace Go.Sx
open Go
section
variable {c:List Kind} {f:Fm} {st:List Part} {p:Part} {e:Evt} {d:Ivl} {l:List Evt}
theorem a9p {a b:Bool} (h:¬(!a || !b)=true):a=true∧b=true:=by cases a<;>cases b<;>simp_all
theorem b2M (h:(a0f c st e).2=0):Inc Part.name st∧st.length≤20000:=by
 unfold a0f at h
 split at h
 ·cases h
 ·rename_i h2
  have:a2Z c st=true∧a1t e=true:=by simpa using h2
  have h3:=a8h this.1;exact⟨b3f h3.1,h3.2⟩
theorem b9z (h:(a0f c st e).2=0) (h4:e.op=4):(a0f c st e).1=st:=by
 have hi:=(b2M h).1;unfold a0f at h ⊢
 split at h
 ·cases h
 ·rename_i h0
  rw[if_neg h0,if_neg oM]at *
  unfold a0q at h ⊢
  split at h
  ·cases h
  ·rename_i h1
   rw[if_neg h1]
   split at h
   ·cases h
   ·rename_i h2
    rw[if_neg h2];have hm:a1V st e∈st:=a9X (a9p h1).1;unfold a0X at h ⊢
    rw[if_neg oM,if_neg oM,if_pos h4]at *
    unfold a0H at h ⊢
    split at h
    ·cases h
    ·rename_i h3
     rw[if_neg h3];exact c5i hi hm
end
end Go.Sx
set_option linter.all false
namespace Go.Sx
open Go
open Go.ChangeMaps (setBlock)
structure ItS where
 es:Array MapEntry
 clock:Nat
 seen:Array Nat
def ItS.it (S:ItS) (m:Nat):Obj:=.mapIter (some m) S.clock S.seen S.clock
def ItS.mp (S:ItS):Obj:=.map S.es S.clock
structure ItS.Ok {κ:Type} (enc:κ→Value) (kvs:List (κ×Value)) (S:ItS):Prop where
 all:S.es.toList.map (fun e=>(e.key,e.val))=a2l enc kvs
 nd:(S.es.toList.map (·.born)).Nodup
 old:∀e∈S.es.toList,e.born<S.clock
def ItS.Todo {κ:Type} (enc:κ→Value) (todo:List (κ×Value)) (S:ItS):Prop:=(leftOf S.es S.seen).toList.map (fun e=>(e.key,e.val))=a2l enc todo
def ItS.At {κ:Type} (enc:κ→Value) (p:κ×Value) (S:ItS):Prop:=∃(e:MapEntry) (seen0:Array Nat),S.seen=seen0.push e.born∧e∈S.es.toList∧e.key=enc p.1∧e.val=p.2
inductive ItS.Step {κ:Type} (enc:κ→Value) (kvs todo:List (κ×Value)) (S:ItS):Option (κ×Value)→ItS→List (κ×Value)→Prop
 |over (h:todo=[]):ItS.Step enc kvs todo S none S todo
 |come (p:κ×Value) (a b:List (κ×Value)) (S':ItS) (h:todo=a++p::b) (h1:S'.Ok enc kvs) (h2:S'.Todo enc (a++b)) (h3:S'.At enc p):ItS.Step enc kvs todo S (some p) S' (a++b)
def c4O {κ:Type} (enc:κ→Value):Option (κ×Value)→Array Value
 |none=>#[.bool false]
 |some p=>#[.bool true,enc p.1,p.2]
theorem c1F {κ:Type} (enc:κ→Value) (q:Option (κ×Value)):(c4O enc q)[0]? = some (.bool q.isSome):=by cases q<;>rfl
theorem c3V {κ:Type} {enc:κ→Value} {x:Value×Value}:∀{l a b:List (Value×Value)} {todo:List (κ×Value)},l=a2l enc todo→l=a++x::b→∃(p:κ×Value) (a' b':List (κ×Value)),todo=a'++p::b'∧a2l enc a'=a∧a2l enc b'=b∧(enc p.1,p.2)=x
 |_,a,b,todo,rfl,h=>by
  have h1:todo.map (fun p=>(enc p.1,p.2))=a++x::b:=h;obtain⟨a',c',rfl,h2,h3⟩:=List.map_eq_append_iff.1 h1;obtain⟨p,b',rfl,h4,h5⟩:=List.map_eq_cons_iff.1 h3;exact⟨p,a',b',rfl,h2,h5,h4⟩
section
variable {P:Program} {ρ:Option Nat} {n:Sz} {E:Ent} {I:IMap} {L:LL} {H:List Res} {Q:Exit→Act→World→Prop} {ops:Array Oper} {K:Act→World→Prop}
variable {d ty:Nat} {pos:String} {af:Array Edge} {x y:Operand} {κ:Type} [DecidableEq κ] {enc:κ→Value} {kvs todo:List (κ×Value)} {S:ItS} {m r:Nat}
theorem b1u (h:∀S:ItS,S.Ok enc kvs→S.Todo enc kvs→S.seen=#[]→SX n E I L (.any m S.mp::H) K):SX n E I L (.mp m (a2l enc kvs)::H) K:=by
 intro a w s mm;obtain⟨entries,clock,h1,h2,h3,h4⟩:=mm.mp (List.mem_cons_self ..);refine h ⟨entries,clock,#[]⟩ ⟨h2,h3,h4⟩ ?_ rfl a w s (mm.step rfl ⟨rfl,Nat.le_refl _⟩ rfl (Nat.le_refl _) (fun _ _ _=>rfl) h1 (fun g hg=>.inl hg));unfold ItS.Todo leftOf;rw[show (entries.filter fun e=>!(#[]:Array Nat).contains e.born)=entries from Array.filter_eq_self.2 (fun x hx=>by simp)];exact h2
theorem b9h (hO:S.Ok enc kvs) (h:SX n E I L (.mp m (a2l enc kvs)::H) K):SX n E I L (.any m S.mp::H) K:=by
 intro a w s mm;refine h a w s (mm.step rfl ⟨rfl,Nat.le_refl _⟩ rfl (Nat.le_refl _) (fun _ _ _=>rfl) ⟨S.mp,mm.holds _ (List.mem_cons_self ..),S.es,S.clock,rfl,hO.all,hO.nd,hO.old⟩ (fun g hg=>.inl hg))
theorem c4P {mt kt et:Nat} (hm:∀w,Mem E I H w→w.heap[m]? = some S.mp) (hS:S.seen=#[]) (ht:P.underlying mt=some (.map kt et)) (hx:ev L x=some (.map (some m))) (hd:Nat.blt d n.sz=true)
  (k:∀r,SX n E I ((d,.pointer (some ⟨r,0,none⟩))::L) (.any r (S.it m)::H) K):SX n E I L H (one P ops Q ⟨some d,.range mt x,ty,pos,af,none⟩ K):=
 a8C (fun r:Nat=>.pointer (some ⟨r,0,none⟩)) (fun _=>I) (fun r=>.any r (S.it m)::H) (fun _=>True) hd
  (fun a w st mm=>by
   have hb:w.heap[m]? = some (.map S.es S.clock):=hm w mm;refine⟨w.heap.size,w.alloc (.mapIter (some m) S.clock #[] S.clock),trivial,?_,mm.new rfl ⟨rfl,Nat.le_refl _⟩ rfl (by simp) (fun k hk=>a5a w _ k hk) (by show (w.alloc _).heap[w.heap.size]? = _;rw[heap_alloc_new];simp[ItS.it,hS]) (fun g hg=>by simp only[Res.foot,Option.some.injEq]at hg;omega)⟩
   simp only[execOp,st.ev hx,Sem.run_bind,run_range_map w mt kt et m S.es S.clock ht hb,Result.andThen_ok,Sem.run_pure]) fun r _=>k r
theorem c1O {mt kt et:Nat} (hS:S.seen=#[]) (ht:P.underlying mt=some (.map kt et)) (hx:ev L x=some (.map (some m))) (hd:Nat.blt d n.sz=true)
  (k:∀r,SX n E I ((d,.pointer (some ⟨r,0,none⟩))::L) (.any r (S.it m) :: .any m S.mp::H) K):SX n E I L (.any m S.mp::H) (one P ops Q ⟨some d,.range mt x,ty,pos,af,none⟩ K):=
 c4P (fun w mm=>mm.holds _ (List.mem_cons_self ..)) hS ht hx hd k
theorem Mem.setBlock {w:World} {o o':Obj} (mm:Mem E I (.any r o::H) w):Mem E I (.any r o'::H) (setBlock w r o'):=by
 have hr:w.heap[r]? = some o:=mm.holds _ (List.mem_cons_self ..);have hlt:r<w.heap.size:=(Array.getElem?_eq_some_iff.1 hr).1;refine mm.step rfl ⟨rfl,Nat.le_refl _⟩ rfl (by simp[ChangeMaps.setBlock]) (fun k hk hne=>?_) (by show (ChangeMaps.setBlock w r o').heap[r]? = _;simp[ChangeMaps.setBlock,hlt]) (fun g hg=>.inl hg);have:r≠k:=fun e=>hne (by rw[←e];rfl)
 simp[ChangeMaps.setBlock,Array.getElem?_setIfInBounds_ne this]
theorem c8N (hm:∀w,Mem E I (.any r (S.it m)::H) w→w.heap[m]? = some S.mp) (hO:S.Ok enc kvs) (hT:S.Todo enc todo) (hx:ev L x=some (.pointer (some ⟨r,0,none⟩))) (hd:Nat.blt d n.sz=true)
  (k:∀q S' todo',ItS.Step enc kvs todo S q S' todo'→S'.mp=S.mp→SX n E I ((d,.tuple (c4O enc q))::L) (.any r (S'.it m)::H) K) :
  SX n E I L (.any r (S.it m)::H) (one P ops Q ⟨some d,.next x false,ty,pos,af,none⟩ K):=
 a8C (α:=Option (κ×Value)×ItS×List (κ×Value)) (fun z=>.tuple (c4O enc z.1)) (fun _=>I) (fun z=>.any r (z.2.1.it m)::H) (fun z=>ItS.Step enc kvs todo S z.1 z.2.1 z.2.2∧z.2.1.mp=S.mp) hd
  (fun a w st mm=>by
   have hr:w.heap[r]? = some (.mapIter (some m) S.clock S.seen S.clock):=mm.holds (.any r (S.it m)) (List.mem_cons_self ..);have hb:w.heap[m]? = some (.map S.es S.clock):=hm w mm
   rcases run_next_at (P:=P) w ty r m S.clock S.clock S.seen S.es S.clock hr hb hO.old (Nat.le_refl _) with ⟨h0,hrun⟩|⟨e,he,w1,hw1,hrun⟩
   ·refine⟨(none,S,todo),w,⟨.over ?_,rfl⟩,by simp only[execOp,st.ev hx,Sem.run_bind,hrun,Result.andThen_ok,Sem.run_pure];rfl,mm⟩;have h1:(leftOf S.es S.seen).toList=[]:=List.eq_nil_of_length_eq_zero (by simpa using h0);unfold ItS.Todo at hT
    rw[h1]at hT
    cases todo with
    |nil=>rfl
    |cons p t=>simp[a2l]at hT
   ·have hm1:Mem E I (.any r (S.it m)::H) w1:=by rcases hw1 with rfl|rfl;exact mm;exact mm.drew
    obtain⟨l1,l2,hl⟩:=List.append_of_mem he;have hT':=hT;unfold ItS.Todo at hT'
    rw[hl,List.map_append,List.map_cons]at hT'
    obtain⟨p,a',b',e1,e2,e3,e4⟩:=c3V hT'.symm.symm rfl
    have hmem:e∈S.es.toList:=by
     have:e∈(S.es.filter fun e=>!S.seen.contains e.born).toList:=he
     simp at this;simpa using this.1
    have hnd:((leftOf S.es S.seen).toList.map (·.born)).Nodup:=by
     have hs:List.Sublist (leftOf S.es S.seen).toList S.es.toList:=by
      unfold leftOf;rw[Array.toList_filter];exact List.filter_sublist
     exact (hs.map _).nodup hO.nd
    have hleft:(leftOf S.es (S.seen.push e.born)).toList=l1++l2:=by
     have h5:(leftOf S.es (S.seen.push e.born)).toList=(leftOf S.es S.seen).toList.filter (fun y=>!(y.born == e.born)):=by
      unfold leftOf;rw[Array.toList_filter,Array.toList_filter,List.filter_filter]
      congr 1
      funext y
      simp only[Array.contains_push]
      cases S.seen.contains y.born<;>cases hq:(y.born == e.born)<;>simp_all
     rw[h5,hl,List.filter_append,List.filter_cons];rw[hl,List.map_append,List.map_cons]at hnd
     have hn:=List.nodup_append.1 hnd;have hn2:=List.nodup_cons.1 hn.2.1
     simp only[beq_self_eq_true,Bool.not_true,Bool.false_eq_true,if_false]
     congr 1
     ·rw[List.filter_eq_self];intro y hy;have:y.born≠e.born:=hn.2.2 _ (List.mem_map_of_mem hy) _ (List.mem_cons_self ..)
      simpa using this
     ·rw[List.filter_eq_self];intro y hy;have:y.born≠e.born:=fun h=>hn2.1 (by rw[←h];exact List.mem_map_of_mem hy)
      simpa using this
    refine⟨(some p,⟨S.es,S.clock,S.seen.push e.born⟩,a'++b'),setBlock w1 r (.mapIter (some m) S.clock (S.seen.push e.born) S.clock),⟨.come p a' b' ⟨S.es,S.clock,S.seen.push e.born⟩ e1 ⟨hO.all,hO.nd,hO.old⟩ ?_ ⟨e,S.seen,rfl,hmem,?_,?_⟩,rfl⟩,?_,?_⟩
    ·show (leftOf S.es (S.seen.push e.born)).toList.map _=_
     rw[hleft,List.map_append,a2l,List.map_append];rw[←e2,←e3];rfl
    ·exact (congrArg Prod.fst e4).symm
    ·exact (congrArg Prod.snd e4).symm
    ·simp only[execOp,st.ev hx,Sem.run_bind,hrun,Result.andThen_ok,Sem.run_pure]
     rw[show e.key=enc p.1 from (congrArg Prod.fst e4).symm,show e.val=p.2 from (congrArg Prod.snd e4).symm];rfl
    ·exact Mem.setBlock hm1)
  fun z hz=>k z.1 z.2.1 z.2.2 hz.1 hz.2
theorem c6O (hO:S.Ok enc kvs) (hT:S.Todo enc todo) (hx:ev L x=some (.pointer (some ⟨r,0,none⟩))) (hd:Nat.blt d n.sz=true)
  (k:∀q S' todo',ItS.Step enc kvs todo S q S' todo'→SX n E I ((d,.tuple (c4O enc q))::L) (.any r (S'.it m) :: .any m S'.mp::H) K) :
  SX n E I L (.any r (S.it m) :: .any m S.mp::H) (one P ops Q ⟨some d,.next x false,ty,pos,af,none⟩ K):=
 c8N (fun w mm=>mm.holds (.any m S.mp) (List.mem_cons_of_mem _ (List.mem_cons_self ..))) hO hT hx hd fun q S' t' hs e=>e▸k q S' t' hs
theorem c3a {p:κ×Value} (h1:Res.any r (S.it m)∈H) (h2:Res.any m S.mp∈H) (hO:S.Ok enc kvs) (hA:S.At enc p) (hx:ev L x=some (.pointer (some ⟨r,0,none⟩))):OV P n E I L H ⟨some d,.entry x,ty,pos,af,none⟩ (.tuple #[enc p.1,p.2]):=fun a w st mm=>by
 obtain⟨e,seen0,hs,he,hk,hv⟩:=hA
 have hr:w.heap[r]? = some (.mapIter (some m) S.clock (seen0.push e.born) S.clock):=by
  have:=mm.holds _ h1;rw[←hs];exact this
 have hb:w.heap[m]? = some (.map S.es S.clock):=mm.holds _ h2
 simp only[execOp,st.ev hx,Sem.run_bind,run_entry_at w r m S.clock seen0 S.es S.clock e hr hb he hO.nd,Result.andThen_ok,Sem.run_pure,hk,hv]
def b6B {κ:Type} [DecidableEq κ]:List (κ×Value)→κ→List (κ×Value)
 | [],_=>[]
 |(k',v)::r,k=>if k'=k then r else (k',v)::b6B r k
theorem c1r {kvs:List (κ×Value)} {k:κ}:∀{i},a3j kvs k i=none→b6B kvs k=kvs:=by
 induction kvs with
 |nil=>intro i _;rfl
 |cons p r ih=>
  obtain⟨k',u⟩:=p;intro i h
  simp only[a3j]at h
  split at h
  ·cases h
  ·rename_i hne;simp only[b6B,if_neg hne,ih h]
theorem c1s {kvs:List (κ×Value)} {k:κ}:∀{i j u},a3j kvs k i=some (j,u)→i≤j∧j-i<kvs.length∧b6B kvs k=kvs.eraseIdx (j-i):=by
 induction kvs with
 |nil=>intro i j u h;cases h
 |cons p r ih=>
  obtain⟨k',u'⟩:=p;intro i j u h
  simp only[a3j]at h
  split at h
  ·rename_i he
   simp only[Option.some.injEq,Prod.mk.injEq]at h
   obtain⟨rfl,rfl⟩:=h;exact⟨Nat.le_refl _,by simp,by simp[b6B,he]⟩
  ·rename_i hne
   obtain⟨h1,h2,h3⟩:=ih h;refine⟨oM,by simp only[List.length_cons];omega,?_⟩;rw[show j-i=(j-(i+1))+1 from oM,List.eraseIdx_cons_succ,b6B,if_neg hne,h3]
theorem a9L:∀{kvs:List (κ×Value)} {k:κ},(kvs.map Prod.fst).Nodup→b6B kvs k=kvs.filter (fun p=>!decide (p.1=k))
 | [],k,_=>rfl
 |(k',v)::r,k,h=>by
  rw[List.map_cons,List.nodup_cons]at h
  simp only[b6B,List.filter_cons]
  split
  ·rename_i he
   subst he
   simp only[decide_true,Bool.not_true,Bool.false_eq_true,if_false]
   refine (List.filter_eq_self.2 fun p hp=>?_).symm
   have:p.1≠k':=fun e=>by
    have h9:p.1∈r.map Prod.fst:=List.mem_map_of_mem (f:=Prod.fst) hp;rw[e]at h9
    exact h.1 h9
   simpa using this
  ·rename_i hne
   simp only[hne,decide_false,Bool.not_false,if_true]
   rw[a9L h.2]
theorem b6P {mt kt et:Nat} {ats:List TypeId} (hK:KeyOK P kt enc) (ht:P.underlying mt=some (.map kt et)) (key:κ) (hx:ev L x=some (.map (some m))) (hy:ev L y=some (enc key))
  (k:SX n E I L (.mp m (a2l enc (b6B kvs key))::H) K):SX n E I L (.mp m (a2l enc kvs)::H) (one P ops Q ⟨none,.call { callee:=.builtin .delete,args:=#[x,y],argTypes:=(mt::ats).toArray },ty,pos,af,none⟩ K):=by
 intro a w st mm;unfold one;rw[if_pos (by rfl)];obtain⟨entries,clock,h1,h2,h3,h4⟩:=mm.mp (List.mem_cons_self ..);have hlt:m<w.heap.size:=(Array.getElem?_eq_some_iff.1 h1).1;have hf:=hK.find w key entries.toList kvs h2;have hset:∀o:Obj,(setObj m o).run P w = .ok () { w with heap:=w.heap.setIfInBounds m o }:=fun o=>by simp[setObj,Sem.run,h1]
 have hnew:∀o:Obj,({ w with heap:=w.heap.setIfInBounds m o }:World).heap[m]? = some o:=fun o=>by simp[hlt]
 have hstep:∀(o:Obj),c3y o (a2l enc (b6B kvs key))→Mem E I (.mp m (a2l enc (b6B kvs key))::H) { w with heap:=w.heap.setIfInBounds m o }:=fun o ho=>
  mm.step rfl ⟨rfl,Nat.le_refl _⟩ rfl (by simp) (fun k hk hne=>by
   have:m≠k:=fun e=>hne (by rw[←e];rfl)
   simp[Array.getElem?_setIfInBounds_ne this]) ⟨o,hnew o,ho⟩ (fun g hg=>.inl hg)
 have key0:∃o,c3y o (a2l enc (b6B kvs key))∧(execOp a.eval ⟨none,.call { callee:=.builtin .delete,args:=#[x,y],argTypes:=(mt::ats).toArray },ty,pos,af,none⟩).run P w = .ok (.value (.tuple #[])) { w with heap:=w.heap.setIfInBounds m o }:=by
  cases hm:a3j kvs key 0 with
  |none=>
   refine⟨.map entries clock,⟨_,_,rfl,by rw[c1r hm];exact h2,h3,h4⟩,?_⟩
   simp[execOp,resolve,invoke,builtin,st.ev hx,st.ev hy,Builtin.delete_,run_underlying ht,a5m h1,hK.check,hf,hm,hset]
  |some q=>
   obtain⟨j,u⟩:=q;obtain⟨_,hj,hp⟩:=c1s hm
   simp only[Nat.sub_zero]at hj hp
   have hsub:List.Sublist (entries.eraseIdxIfInBounds j).toList entries.toList:=by
    rw[Array.toList_eraseIdxIfInBounds];exact List.eraseIdx_sublist _ _
   refine⟨.map (entries.eraseIdxIfInBounds j) clock,⟨_,_,rfl,?_,(hsub.map _).nodup h3,fun e he=>h4 e (hsub.subset he)⟩,?_⟩
   ·have hem:∀{α β:Type} (l:List α) (f:α→β) (i:Nat),(l.eraseIdx i).map f=(l.map f).eraseIdx i:=fun l f i=>by
     rw[List.eraseIdx_eq_take_drop_succ,List.eraseIdx_eq_take_drop_succ];simp
    rw[Array.toList_eraseIdxIfInBounds,hem,h2,hp,a2l,a2l,hem]
   ·simp[execOp,resolve,invoke,builtin,st.ev hx,st.ev hy,Builtin.delete_,run_underlying ht,a5m h1,hK.check,hf,hm,hset]
 obtain⟨o,ho,hr⟩:=key0;rw[a9f hr];exact k _ _ st (hstep o ho)
end
theorem ItS.Step.some {κ:Type} {enc:κ→Value} {kvs todo t':List (κ×Value)} {S S':ItS} {q:Option (κ×Value)} (h:ItS.Step enc kvs todo S q S' t') (hq:q.isSome=true) :
  ∃p a b,todo=a++p::b∧S'.Ok enc kvs∧S'.Todo enc (a++b)∧S'.At enc p∧q = .some p∧t'=a++b:=by
 cases h with
 |over h=>cases hq
 |come p a b S1 h h1 h2 h3=>exact⟨p,a,b,h,h1,h2,h3,rfl,rfl⟩
theorem ItS.Step.none {κ:Type} {enc:κ→Value} {kvs todo t':List (κ×Value)} {S S':ItS} {q:Option (κ×Value)} (h:ItS.Step enc kvs todo S q S' t') (hq:q.isSome=false):todo=[]∧q = .none∧S'=S:=by
 cases h with
 |over h=>exact⟨h,rfl,rfl⟩
 |come p a b S1 h h1 h2 h3=>cases hq
theorem a7C {α:Type} {done todo a b kvs:List α} {p:α} (hP:(done++todo).Perm kvs) (h:todo=a++p::b):(done++[p]++(a++b)).Perm kvs:=by
 subst h;refine List.Perm.trans ?_ hP;rw[List.append_assoc];refine List.Perm.append_left _ ?_;exact (List.perm_middle (a:=p) (l₁:=a) (l₂:=b)).symm
theorem c4U {α:Type} {done todo a b kvs:List α} {p:α} (hP:(done++todo).Perm kvs) (h:todo=a++p::b):p∈kvs:=hP.mem_iff.1 (by rw[h];simp)
end Go.Sx
set_option linter.all false
namespace Go.Sx
open Go
abbrev NU:=ByteArray×ByteArray
def a3s (R:List NU):List (ByteArray×Value):=R.map fun p=>(p.1,Value.string p.2)
theorem b2Y (R:List NU):(a3s R).map Prod.fst=R.map Prod.fst:=by simp[a3s]
theorem b6F:∀{kvs:List (ByteArray×Value)} {k:ByteArray} {v:Value},k∉kvs.map Prod.fst→a5I kvs k v=kvs++[(k,v)]
 | [],_,_,_=>rfl
 |(k',u)::r,k,v,h=>by
  simp only[List.map_cons,List.mem_cons,not_or]at h
  have hne:¬k'=k:=fun e=>h.1 (e▸rfl)
  simp only[a5I,if_neg hne,b6F h.2,List.cons_append]
theorem c0h {R:List NU} {k u:ByteArray} (h:k∉R.map Prod.fst):a5I (a3s R) k (.string u)=a3s (R++[(k,u)]):=by
 rw[b6F (by rw[b2Y];exact h)];simp[a3s]
theorem b2X {R:List NU} {k:ByteArray} (h:(R.map Prod.fst).Nodup):b6B (a3s R) k=a3s (R.filter fun p=>!decide (p.1=k)):=by
 rw[a9L (by rw[b2Y];exact h)];unfold a3s;rw[List.filter_map];rfl
theorem b6E:∀{kvs:List (ByteArray×Value)} {k:ByteArray} {v:Value},(kvs.map Prod.fst).Nodup→(k,v)∈kvs→a4I kvs k=some v
 |(k',u)::r,k,v,hn,h=>by
  rw[List.map_cons,List.nodup_cons]at hn
  simp only[a4I]
  rcases List.mem_cons.1 h with h|h
  ·cases h;simp
  ·have:k'≠k:=fun e=>by
    have h9:k∈r.map Prod.fst:=List.mem_map_of_mem (f:=Prod.fst) h;rw[←e]at h9
    exact hn.1 h9
   rw[if_neg this];exact b6E hn.2 h
theorem b6D:∀{kvs:List (ByteArray×Value)} {k:ByteArray} {v:Value},a4I kvs k=some v→k∈kvs.map Prod.fst
 |(k',u)::r,k,v,h=>by
  simp only[a4I]at h
  split at h
  ·rename_i e;simp[e]
  ·simp[b6D h]
theorem Ix.mem {kvs:List (ByteArray×Value)} {l:List Part} {k:ByteArray} {v:Value} (h:Ix kvs l) (hn:(kvs.map Prod.fst).Nodup) (hp:(k,v)∈kvs):∃(i:Nat) (hi:i<l.length),v=ci (i:Nat)∧a0C l k=some l[i]:=by
 have h1:=b6E hn hp;rw[h k]at h1
 cases hf:l.findIdx? (fun p=>decide (p.name=k)) with
 |none=>rw[hf]at h1;cases h1
 |some i=>
  rw[hf]at h1
  simp only[Option.map_some,Option.some.injEq]at h1
  rw[List.findIdx?_eq_some_iff_getElem]at hf
  obtain⟨hi,hq,hb⟩:=hf;refine⟨i,hi,h1.symm,?_⟩;rw[a0C,List.find?_eq_some_iff_getElem];exact⟨hq,i,hi,rfl,fun j hj=>by simpa using hb j hj⟩
theorem Ix.has {kvs:List (ByteArray×Value)} {l:List Part} {k:ByteArray} (h:Ix kvs l) (hs:(a0C l k).isSome=true):k∈kvs.map Prod.fst:=by
 have h1:=h k
 cases hf:l.findIdx? (fun p=>decide (p.name=k)) with
 |none=>
  exfalso
  rw[List.findIdx?_eq_none_iff]at hf
  obtain⟨p,hp⟩:=Option.isSome_iff_exists.1 hs;have h2:=List.mem_of_find?_eq_some hp;have h3:=List.find?_some hp;rw[hf p h2]at h3;cases h3
 |some i=>rw[hf]at h1;exact b6D h1
theorem a8e {l:List Part} {n:ByteArray} (h:upP l n≠a1b):(a0C l n).isSome=true:=by
 unfold upP at h
 cases hf:a0C l n with
 |none=>rw[hf]at h;exact absurd rfl h
 |some p=>rfl
def a4h (l:List Part) (ks:List ByteArray):List NU:=(ks.filter fun n=>!decide (upP l n=a1b)).map fun n=>(n,upP l n)
section
variable {l:List Part} {v:ByteArray} {R:List NU} {lst out more:List ByteArray} {kvs todo done:List (ByteArray×Value)}
theorem c4i {ks:List ByteArray} {n:ByteArray} (h:upP l n≠a1b):a4h l (ks++[n])=a4h l ks++[(n,upP l n)]:=by simp[a4h,h]
theorem c8d {ks:List ByteArray} {n:ByteArray} (h:upP l n=a1b):a4h l (ks++[n])=a4h l ks:=by simp[a4h,h]
theorem b1S (ks:List ByteArray):(a4h l ks).map Prod.fst=ks.filter fun n=>!decide (upP l n=a1b):=by unfold a4h;rw[List.map_map];exact List.map_id _
theorem c4g {ks:List ByteArray} {n u:ByteArray}:(n,u)∈a4h l ks↔n∈ks∧upP l n=u∧u≠a1b:=by
 unfold a4h;rw[List.mem_map]
 constructor
 ·rintro⟨m,hm,e⟩
  cases e
  have:=List.mem_filter.1 hm;exact⟨this.1,rfl,by simpa using this.2⟩
 ·rintro⟨h1,rfl,h2⟩;exact⟨n,List.mem_filter.2 ⟨h1,by simpa using h2⟩,rfl⟩
def b8j (l:List Part):Nat:=(l.filter fun p=>!decide (p.into=a1b)).length
theorem c4f {ks:List ByteArray} (hn:ks.Nodup):(a4h l ks).length≤b8j l:=by
 unfold a4h b8j;rw[List.length_map,show (l.filter fun p=>!decide (p.into=a1b)).length=((l.filter fun p=>!decide (p.into=a1b)).map Part.name).length from (List.length_map _).symm];refine List.Nodup.length_le_of_subset (List.filter_sublist.nodup hn) fun n hm=>?_
 have h1:=(List.mem_filter.1 hm).2;have h2:upP l n≠a1b:=by simpa using h1
 obtain⟨p,hp⟩:=Option.isSome_iff_exists.1 (a8e h2);have hpn:p.name=n:=by simpa using List.find?_some hp
 refine List.mem_map.2 ⟨p,List.mem_filter.2 ⟨List.mem_of_find?_eq_some hp,?_⟩,hpn⟩;unfold upP at h2
 rw[hp]at h2
 simpa using h2
structure Bfs (l:List Part) (v:ByteArray) (R:List NU) (lst out:List ByteArray):Prop where
 kn:(R.map Prod.fst).Nodup
 rest:∀n u,(n,u)∈R↔(upP l n=u∧u≠a1b)∧n≠v∧n∉out
 ins:∀n∈out,a8E l v n
 lst':∀x∈lst,x=v∨x∈out
 proc:∀x,(x=v∨x∈out)→x∉lst→∀n,(n,x)∉R
 len:out.length+R.length≤b8j l
theorem Bfs.start (hx:Ix kvs l) (hn:(kvs.map Prod.fst).Nodup) (hd:done.Perm kvs):Bfs l v ((a4h l (done.map Prod.fst)).filter fun p=>!decide (p.1=v)) [v] []:=by
 have hdn:(done.map Prod.fst).Nodup:=((hd.map _).nodup_iff).2 hn
 have hR:∀n u,(n,u)∈(a4h l (done.map Prod.fst)).filter (fun p=>!decide (p.1=v))↔(upP l n=u∧u≠a1b)∧n≠v:=fun n u=>by
  rw[List.mem_filter,c4g]
  constructor
  ·rintro⟨⟨_,h2⟩,h3⟩;exact⟨h2,by simpa using h3⟩
  ·rintro⟨⟨rfl,h2⟩,h3⟩;refine⟨⟨?_,rfl,h2⟩,by simpa using h3⟩;exact (hd.map Prod.fst).mem_iff.2 (hx.has (a8e h2))
 refine⟨?_,fun n u=>by rw[hR];simp,fun n h=>(by cases h),fun x h=>.inl (List.mem_singleton.1 h),fun x h hx=>?_,?_⟩
 ·have h1:((a4h l (done.map Prod.fst)).map Prod.fst).Nodup:=by rw[b1S];exact List.filter_sublist.nodup hdn
  exact (List.filter_sublist.map _).nodup h1
 ·rcases h with h|h
  ·exact absurd (List.mem_singleton.2 h) hx
  ·cases h
 ·have:=c4f (l:=l) hdn;have h2:=List.length_filter_le (fun p:NU=>!decide (p.1=v)) (a4h l (done.map Prod.fst))
  simp only[List.length_nil];omega
def a2G (lst:List ByteArray) (done:List NU):List ByteArray:=(done.filter fun p=>decide (p.2∈lst)).map Prod.fst
theorem b3t {done:List NU} {p:NU} (h:p.2∈lst):a2G lst (done++[p])=a2G lst done++[p.1]:=by simp[a2G,h]
theorem b6I {done:List NU} {p:NU} (h:¬p.2∈lst):a2G lst (done++[p])=a2G lst done:=by simp[a2G,h]
theorem c1G (done:List NU):(a2G lst done).length≤done.length:=by unfold a2G;rw[List.length_map];exact List.length_filter_le _ _
theorem a9O {done:List NU} (hd:done.Perm R) {n:ByteArray}:n∈a2G lst done↔∃u,(n,u)∈R∧u∈lst:=by
 unfold a2G;rw[List.mem_map]
 constructor
 ·rintro⟨⟨m,u⟩,hp,rfl⟩;have:=List.mem_filter.1 hp;exact⟨u,hd.mem_iff.1 this.1,by simpa using this.2⟩
 ·rintro⟨u,h1,h2⟩;exact⟨(n,u),List.mem_filter.2 ⟨hd.mem_iff.2 h1,by simpa using h2⟩,rfl⟩
def a7F (R:List NU) (more:List ByteArray):List NU:=R.filter fun p=>!decide (p.1∈more)
theorem c2r:a7F R []=R:=by unfold a7F;rw[List.filter_eq_self];intro p _;simp
theorem b7r (h:(R.map Prod.fst).Nodup) (more:List ByteArray):((a7F R more).map Prod.fst).Nodup:=(List.filter_sublist.map _).nodup h
theorem b9a {i:Nat} (hi:i<more.length) (h:(R.map Prod.fst).Nodup):b6B (a3s (a7F R (more.take i))) more[i]=a3s (a7F R (more.take (i+1))):=by
 rw[b2X (b7r h _)];unfold a7F;rw[List.filter_filter]
 congr 2
 funext p
 rw[←a0e hi]
 simp only[List.mem_append,List.mem_singleton]
 by_cases h1:p.1=more[i]<;>by_cases h2:p.1∈more.take i<;>simp[h1,h2]
theorem d3S {n u u':ByteArray} (h:(R.map Prod.fst).Nodup) (h1:(n,u)∈R) (h2:(n,u')∈R):u=u':=by
 induction R with
 |nil=>cases h1
 |cons p R ih=>
  rw[List.map_cons,List.nodup_cons]at h
  rcases List.mem_cons.1 h1 with h1|h1
  ·rcases List.mem_cons.1 h2 with h2|h2
   ·rw[←h1]at h2;exact (Prod.mk.inj h2).2.symm
   ·exact absurd (List.mem_map_of_mem (f:=Prod.fst) h2) (by rw[←h1]at h;exact h.1)
  ·rcases List.mem_cons.1 h2 with h2|h2
   ·exact absurd (List.mem_map_of_mem (f:=Prod.fst) h1) (by rw[←h2]at h;exact h.1)
   ·exact ih h.2 h1 h2
theorem b6J {done:List NU} (hk:(R.map Prod.fst).Nodup) (hd:done.Perm R):(a2G lst done).length+(a7F R (a2G lst done)).length=R.length:=by
 have h1:(a2G lst done).length=R.countP (fun p=>decide (p.2∈lst)):=by
  unfold a2G;rw[List.length_map,←List.countP_eq_length_filter];exact hd.countP_eq _
 have h2:a7F R (a2G lst done)=R.filter (fun p=>decide ¬(decide (p.2∈lst)=true)):=by
  unfold a7F;refine List.filter_congr fun p hp=>?_
  rw[Bool.eq_iff_iff]
  simp only[Bool.not_eq_true',decide_eq_false_iff_not,decide_eq_true_eq]
  refine not_congr ?_;rw[a9O hd];exact⟨fun ⟨u,h3,h4⟩=>by rw[d3S hk hp h3];exact h4,fun h=>⟨p.2,hp,h⟩⟩
 rw[h1,h2,←List.countP_eq_length_filter];exact (List.length_eq_countP_add_countP (fun p:NU=>decide (p.2∈lst))).symm
theorem Bfs.step {done:List NU} (hv:(a0C l v).isSome=true) (h:Bfs l v R lst out) (hd:done.Perm R):Bfs l v (a7F R (a2G lst done)) (a2G lst done) (out++a2G lst done):=by
 have hsub:∀{p:NU},p∈a7F R (a2G lst done)↔p∈R∧p.1∉a2G lst done:=fun {p}=>by unfold a7F;rw[List.mem_filter];simp
 refine⟨b7r h.kn _,fun n u=>?_,fun n hn=>?_,fun x hx=>.inr (List.mem_append.2 (.inr hx)),fun x hx hnx n hm=>?_,?_⟩
 ·rw[hsub,h.rest,List.mem_append,not_or]
  simp only[and_assoc]
 ·rcases List.mem_append.1 hn with hn|hn
  ·exact h.ins n hn
  ·obtain⟨u,h1,h2⟩:=(a9O hd).1 hn;obtain⟨⟨h3,h4⟩,h5,h6⟩:=(h.rest n u).1 h1;have hup:upP l n≠a1b:=by rw[h3];exact h4
   refine⟨⟨hv,a8e hup,h5⟩,?_⟩
   rcases h.lst' u h2 with rfl|hu
   ·exact⟨1,by unfold a2Y;rw[h3];simp[h4]⟩
   ·obtain⟨_,k,hk⟩:=h.ins u hu;exact⟨k+1,by unfold a2Y;rw[h3];simp[h4,hk]⟩
 ·obtain⟨hm1,hm2⟩:=hsub.1 hm
  have hx':x=v∨x∈out:=by
   rcases hx with hx|hx
   ·exact .inl hx
   ·rcases List.mem_append.1 hx with hx|hx
    ·exact .inr hx
    ·exact absurd hx hnx
  by_cases hl:x∈lst
  ·exact hm2 ((a9O hd).2 ⟨x,hm1,hl⟩)
  ·exact h.proc x hx' hl n hm1
 ·have h1:=h.len;have h2:=b6J (lst:=lst) h.kn hd;rw[List.length_append];omega
theorem Bfs.over (h:Bfs l v R [] out) {n:ByteArray}:n∈out↔a8E l v n:=by
 refine⟨h.ins n,fun ⟨⟨_,hf,hnv⟩,k,hk⟩=>?_⟩
 have key:∀(k:Nat) (n:ByteArray),n≠v→a2Y l v k n=true→n∈out:=by
  intro k
  induction k with
  |zero=>intro n _ h;cases h
  |succ k ih=>
   intro n hn hr
   simp only[a2Y,Bool.and_eq_true,Bool.not_eq_true',decide_eq_false_iff_not,Bool.or_eq_true,decide_eq_true_eq]at hr
   obtain⟨h1,h2⟩:=hr;refine Classical.byContradiction fun hc=>?_
   have hR:=(h.rest n (upP l n)).2 ⟨⟨rfl,h1⟩,hn,hc⟩
   by_cases hv:upP l n=v
   ·exact h.proc _ (.inl hv) (by simp) n hR
   ·exact h.proc _ (.inr (ih _ hv (h2.resolve_left hv))) (by simp) n hR
 exact key k n hnv hk
theorem c1J (h:a0C l v=none) (n:ByteArray):¬a8E l v n:=fun ⟨⟨h1,_⟩,_⟩=>by rw[h]at h1;cases h1
end
end Go.Sx
set_option linter.all false
namespace Go.Sx
open Go
section
variable {c:List Kind} {f:Fm} {st:List Part} {l L:List Evt} {p q:Part} {e:Evt} {d:Ivl} {day:Int} {i:Nat} {k:Int}
def a9u (st:List Part):Nat:=st.length+b8j st
theorem b0P (st:List Part):b8j st=st.countP fun p=>!decide (p.into=a1b):=by unfold b8j;rw[List.countP_eq_length_filter]
theorem b6i (st:List Part) (i:Nat) (p:Part):b8j (st.set i p)≤b8j st+1:=by
 rw[b0P,b0P]
 rcases Nat.lt_or_ge i st.length with h|h
 ·rw[List.set_eq_take_append_cons_drop,if_pos h];have h2:st.countP (fun p=>!decide (p.into=a1b))=(st.take i).countP (fun p=>!decide (p.into=a1b))+(st.drop i).countP (fun p=>!decide (p.into=a1b)):=by rw[←List.countP_append,List.take_append_drop]
  have h3:(st.drop (i+1)).countP (fun p=>!decide (p.into=a1b))≤(st.drop i).countP (fun p=>!decide (p.into=a1b)):=by
   rw[List.drop_eq_getElem_cons h,List.countP_cons];omega
  rw[List.countP_append,List.countP_cons]
  split<;>omega
 ·rw[List.set_eq_of_length_le h];omega
theorem c7Q (hi:Inc Part.name st) (h:(a0C st q.name).isSome=true):a9u (a4M Part.name st q)≤a9u st+1:=by
 have ha:atF Part.name st q.name=true:=by rw[a9j hi];exact h
 unfold a9u a4M;rw[if_pos ha,List.length_set];have:=b6i st (a6t Part.name st q.name) q
 omega
theorem c7P (hq:q.into=a1b):a9u (a4M Part.name st q)≤a9u st+1:=by
 unfold a4M
 split
 ·unfold a9u;rw[List.length_set];have:=b6i st (a6t Part.name st q.name) q
  omega
 ·unfold a9u;rw[b0P,b0P,List.countP_append,List.countP_cons,List.length_append,List.length_cons];have h2:st.countP (fun p=>!decide (p.into=a1b))=(st.take (a6t Part.name st q.name)).countP (fun p=>!decide (p.into=a1b))+(st.drop (a6t Part.name st q.name)).countP (fun p=>!decide (p.into=a1b)):=by rw[←List.countP_append,List.take_append_drop]
  have h3:(st.take (a6t Part.name st q.name)).length+(st.drop (a6t Part.name st q.name)).length=st.length:=by rw[←List.length_append,List.take_append_drop]
  simp only[hq,decide_true,Bool.not_true,Bool.false_eq_true,if_false]
  omega
theorem a9v (h:(a0f c st e).2=0):a9u (a0f c st e).1≤a9u st+1:=by
 have hi:=(b2M h).1;have hf:∀n,a9u (a5S n).1≤a9u st+1:=fun n=>by show a9u []≤_;unfold a9u b8j;simp
 unfold a0f at h ⊢
 split
 ·exact hf _
 ·split
  ·unfold a2s
   split
   ·exact hf _
   split
   ·exact hf _
   split
   ·exact hf _
   ·exact c7P rfl
  ·unfold a0q
   split
   ·exact hf _
   rename_i h2
   split
   ·exact hf _
   have hs:(a0C st e.part).isSome=true:=(a9p h2).1;obtain⟨p0,hp0⟩:=Option.isSome_iff_exists.1 hs;have hP:a1V st e=p0:=by unfold a1V;rw[hp0];rfl
   have hn:p0.name=e.part:=by simpa using List.find?_some hp0
   have hput:∀q:Part,q.name=p0.name→a9u (b7d st q).1≤a9u st+1:=fun q hq=>c7Q hi (by rw[hq,hn];exact hs)
   rw[hP];unfold a0X a0L a0m a0H a0B a0r
   repeat' split
   all_goals first
    |exact hf _
    |exact hput _ rfl
theorem b4B:a9u (useL st e d)=a9u st:=by
 unfold a9u useL;rw[b0P,b0P,List.length_map,List.countP_map]
 congr 1
 refine List.countP_congr fun p _=>?_
 simp only[Function.comp]
 split<;>rfl
theorem c2W (h:SmF st):SmF (useL st e d):=fun p hp=>by
 unfold useL at hp
 obtain⟨q,hq,rfl⟩:=List.mem_map.1 hp;have:=h q hq
 split<;>exact this
theorem a9b (h:(!a1a c || !a1p f)=true):runL f c l day=([],-1,1):=if_pos h
theorem c2u (h:(!a1a c || !a1p f)=false):runL f c l day=runLGo f c [] 0 ((a0Q (l.filter fun e=>!decide (e.day>day))).drop 0):=by
 unfold runL;rw[if_neg (by rw[h];decide)];rfl
theorem b1T (hi:i<L.length) (h:¬(a0f c st L[i]).2=0):runLGo f c st k (L.drop i)=([],k,(a0f c st L[i]).2):=by
 rw[List.drop_eq_getElem_cons hi,runLGo,if_neg (by rw[a4p];exact h),a4p]
theorem a9E (hi:i<L.length) (h:(a0f c st L[i]).2=0) (h4:¬L[i].op=4):runLGo f c st k (L.drop i)=runLGo f c (a0f c st L[i]).1 (k+1) (L.drop (i+1)):=by
 rw[List.drop_eq_getElem_cons hi,runLGo,if_pos (by rw[a4p];exact h)];unfold applyL;rw[if_neg (fun hc=>h4 hc.2)]
theorem b4T (hi:i<L.length) (h:(a0f c st L[i]).2=0) (h4:L[i].op=4):runLGo f c st k (L.drop i)=runLGo f c (useL (a0f c st L[i]).1 L[i] (a6G f L[i].use)) (k+1) (L.drop (i+1)):=by
 rw[List.drop_eq_getElem_cons hi,runLGo,if_pos (by rw[a4p];exact h)];unfold applyL;rw[if_pos ⟨h,h4⟩]
theorem c0Q (hi:¬i<L.length):runLGo f c st k (L.drop i)=(st,-1,0):=by rw[List.drop_eq_nil_of_le oM];rfl
noncomputable def useUp (st:List Part) (e:Evt) (d:Ivl) (i:Nat):List Part:=(useL st e d).take i++st.drop i
theorem use_len:(useL st e d).length=st.length:=by unfold useL;exact List.length_map ..
theorem b4h (i:Nat):(useUp st e d i).length=st.length:=by
 unfold useUp;rw[List.length_append,List.length_take,List.length_drop,use_len];omega
theorem b9k:useUp st e d 0=st:=by simp[useUp]
theorem c2S:useUp st e d st.length=useL st e d:=by
 unfold useUp;rw[List.drop_length,List.append_nil,←use_len (e:=e) (d:=d),List.take_length]
theorem b7L {i:Nat} (hi:i<st.length):(useUp st e d i)[i]? = some st[i]:=by
 unfold useUp;rw[List.getElem?_append_right (by rw[List.length_take,use_len];omega),List.length_take,use_len,Nat.min_eq_left oM,Nat.sub_self,List.getElem?_drop,Nat.add_zero];exact List.getElem?_eq_getElem hi
theorem b1x {i:Nat} (hi:i<st.length):useUp st e d (i+1)=(useUp st e d i).set i ((useL st e d)[i]'(by rw[use_len];exact hi)):=by
 unfold useUp;have hl:((useL st e d).take i).length=i:=by rw[List.length_take,use_len];omega
 rw[List.set_append_right _ _ oM,hl,Nat.sub_self,List.drop_eq_getElem_cons hi,List.set_cons_zero,←a0e (by rw[use_len];exact hi),List.append_assoc]
 rfl
theorem b7N {i:Nat} (hi:i<st.length) {ns:List ByteArray} (hn:∀n,n∈ns↔a8E st e.part n) (h:st[i].name∈ns++[e.part]):(useL st e d)[i]'(by rw[use_len];exact hi)=a5O d e.use st[i]:=by
 simp only[useL,List.getElem_map]
 rw[if_pos]
 rcases List.mem_append.1 h with h|h
 ·exact .inr ((hn _).1 h)
 ·exact .inl (List.mem_singleton.1 h)
theorem c2V {i:Nat} (hi:i<st.length) {ns:List ByteArray} (hn:∀n,n∈ns↔a8E st e.part n) (h:¬st[i].name∈ns++[e.part]):(useL st e d)[i]'(by rw[use_len];exact hi)=st[i]:=by
 simp only[useL,List.getElem_map]
 rw[if_neg];rintro (h1|h1)
 ·exact h (List.mem_append.2 (.inr (List.mem_singleton.2 h1)))
 ·exact h (List.mem_append.2 (.inl ((hn _).2 h1)))
theorem c5T {i:Nat} (hi:i<st.length) {ns:List ByteArray} (hn:∀n,n∈ns↔a8E st e.part n) (h:¬st[i].name∈ns++[e.part]):useUp st e d (i+1)=useUp st e d i:=by
 rw[b1x hi,c2V hi hn h];have h1:=b7L (e:=e) (d:=d) hi;have hl:i<(useUp st e d i).length:=by rw[b4h];exact hi
 rw[List.getElem?_eq_getElem hl]at h1
 rw[←Option.some.inj h1];exact List.set_getElem_self hl
theorem c9v (h:(a0f c st e).2=0) (h4:e.op=4):0<st.length:=by
 have h0:=h;unfold a0f at h
 split at h
 ·cases h
 ·rw[if_neg oM]at h
  unfold a0q at h
  split at h
  ·cases h
  ·rename_i h2
   exact List.length_pos_of_mem (a9X (a9p h2).1)
end
theorem c0g {todo:List NU} {a b:List (ByteArray×Value)} {p:ByteArray×Value} (h:a3s todo=a++p::b):∃n u a' b',todo=a'++(n,u)::b'∧a3s a'=a∧a3s b'=b∧p=(n,.string u):=by
 unfold a3s at h
 obtain⟨a',c',rfl,h2,h3⟩:=List.map_eq_append_iff.1 h;obtain⟨⟨n,u⟩,b',rfl,h4,h5⟩:=List.map_eq_cons_iff.1 h3;exact⟨n,u,a',b',rfl,h2,h5,h4.symm⟩
theorem ItS.Step.nu {R todo:List NU} {t':List (ByteArray×Value)} {S S':ItS} {q:Option (ByteArray×Value)} (h:ItS.Step Value.string (a3s R) (a3s todo) S q S' t') (hq:q.isSome=true) :
  ∃(n u:ByteArray) (a b:List NU),todo=a++(n,u)::b∧S'.Ok Value.string (a3s R)∧S'.Todo Value.string (a3s (a++b))∧S'.At Value.string (n,.string u)∧q = .some (n,.string u):=by
 obtain⟨p,a,b,h1,h2,h3,h4,h5,_⟩:=h.some hq;obtain⟨n,u,a',b',e1,e2,e3,e4⟩:=c0g h1;subst e4;exact⟨n,u,a',b',e1,h2,by rw[show a3s (a'++b')=a3s a'++a3s b' from List.map_append,e2,e3];exact h3,h4,h5⟩
theorem ItS.Step.nuNone {R todo:List NU} {t':List (ByteArray×Value)} {S S':ItS} {q:Option (ByteArray×Value)} (h:ItS.Step Value.string (a3s R) (a3s todo) S q S' t') (hq:q.isSome=false):todo=[]∧q = .none∧S'=S:=by
 obtain⟨h1,h2,h3⟩:=h.none hq;exact⟨by cases todo with|nil=>rfl|cons p t=>simp[a3s]at h1,h2,h3⟩
theorem c4V {done todo a b kvs:List (ByteArray×Value)} {p:ByteArray×Value} (hP:(done++todo).Perm kvs) (h:todo=a++p::b) (hn:(kvs.map Prod.fst).Nodup):p.1∉done.map Prod.fst:=fun hm=>by
 have h1:=((hP.map Prod.fst).nodup_iff).2 hn;rw[List.map_append]at h1
 refine (List.nodup_append.1 h1).2.2 _ hm p.1 (List.mem_map_of_mem (by rw[h];simp)) rfl
theorem c4h {l:List Part} {ks:List ByteArray} {n:ByteArray} (h:n∉ks):n∉(a4h l ks).map Prod.fst:=fun hm=>by
 rw[b1S]at hm;exact h (List.mem_filter.1 hm).1
theorem c0u {l:List Part} {done:List (ByteArray×Value)} {p:ByteArray×Value} (h:upP l p.1≠a1b):a4h l ((done++[p]).map Prod.fst)=a4h l (done.map Prod.fst)++[(p.1,upP l p.1)]:=by
 rw[List.map_append];exact c4i h
theorem c0t {l:List Part} {done:List (ByteArray×Value)} {p:ByteArray×Value} (h:upP l p.1=a1b):a4h l ((done++[p]).map Prod.fst)=a4h l (done.map Prod.fst):=by
 rw[List.map_append];exact c8d h
theorem c8c {l:List Part} {done kvs:List (ByteArray×Value)} (hn:(kvs.map Prod.fst).Nodup) (hd:done.Perm kvs):((a4h l (done.map Prod.fst)).map Prod.fst).Nodup:=by
 rw[b1S];exact List.filter_sublist.nodup (((hd.map _).nodup_iff).2 hn)
theorem c4p {I:IMap} {ys:List Value} {m:List ByteArray} (h:Flat I ys m):ys=(a2v m).flatten:=by
 obtain⟨xss,rfl,hC⟩:=FlatC.of h;obtain rfl:=c2C hC
 rfl
theorem a0g {xss:List (List Value)} {i:Nat} {c c':List Value} (h:xss[i]? = some c):(xss.set i c')[i]? = some c':=by
 have hi:i<xss.length:=(List.getElem?_eq_some_iff.1 h).1;rw[List.getElem?_set_self hi]
theorem c3O {I:IMap} {xss:List (List Value)} {l:List Part} {k:Nat} {p:Part} (hx:FlatC I xss l) (hk:l[k]? = some p) (rest:List (List Value)):∃q,(xss++rest)[k]? = some (p.cells q)∧RdS I q p.props:=by
 have hkl:k<l.length:=(List.getElem?_eq_some_iff.1 hk).1;obtain⟨c,h1,h2⟩:=hx.at_ hkl;rw[List.getElem?_eq_getElem hkl]at hk
 rw[Option.some.inj hk]at h2
 obtain⟨q,rfl,hq⟩:=h2;exact⟨q,by rw[List.getElem?_append_left (List.getElem?_eq_some_iff.1 h1).1];exact h1,hq⟩
section
variable {P:Program} {ρ:Option Nat} {n:Sz} {E:Ent} {I:IMap} {L:LL} {H:List Res} {Q:Exit→Act→World→Prop} {ops:Array Oper} {K:Act→World→Prop}
variable {d ty:Nat} {pos:String} {af:Array Edge} {x y:Operand} {xss:List (List Value)} {c:List Value} {g off tt t' k kk:Nat}
theorem b9O (hU:Uk k xss) {i j:Nat} (hi:xss[i]? = some c) {vs:List Value} (hv:(c.drop j).take kk=vs) (hk:vs.length=kk) (hk0:0<kk):(xss.flatten.drop (i * k+j)).take kk=vs:=by
 have h1:=b4R hU hi;have hc:c.length=k:=hU c (List.mem_of_getElem? hi)
 have hjk:j+kk≤k:=by
  have:=congrArg List.length hv;rw[List.length_take,List.length_drop]at this
  omega
 rw[←hv,←h1,List.drop_take,List.take_take,List.drop_drop,Nat.min_eq_left oM]
theorem a2k (vs:List Value) (hm:Res.blk g t' xss.flatten∈H) (hU:Uk k xss) (ht:tyK P tt=some (true,kk)) (hx:ev L x=some (.pointer (some ⟨g,off,none⟩))) (i j:Nat) (ho:off=i * k+j) (hi:xss[i]? = some c) (hv:(c.drop j).take kk=vs) (hk:vs.length=kk) (hk0:Nat.blt 0 kk=true) :
  OV P n E I L H ⟨some d,.load tt x,ty,pos,af,none⟩ (.agg vs.toArray):=a0J vs hm ht hx (by subst ho;exact b9O hU hi hv hk (by simpa[Nat.blt_eq]using hk0)) hk
theorem c7d {v:Value} (hm:Res.blk g t' xss.flatten∈H) (hU:Uk k xss) (ht:tyK P tt=some (false,1)) (hx:ev L x=some (.pointer (some ⟨g,off,none⟩))) (i j:Nat) (ho:off=i * k+j) (hi:xss[i]? = some c) (hv:c[j]? = some v) :
  OV P n E I L H ⟨some d,.load tt x,ty,pos,af,none⟩ v:=b0v hm ht hx (by
   subst ho;have hj:j<c.length:=(List.getElem?_eq_some_iff.1 hv).1
   have h1:=b9O (kk:=1) hU hi (j:=j) (vs:=[v]) (by
    rw[List.drop_eq_getElem_cons hj];rw[List.getElem?_eq_getElem hj]at hv
    cases hv;rfl) rfl oM
   have h2:=congrArg (·[0]?) h1
   simpa[List.getElem?_take,List.getElem?_drop]using h2)
theorem a0Y {b:Bool} {v:Value} (vs c':List Value) (hU:Uk k xss) (ht:tyK P tt=some (b,kk)) (hx:ev L x=some (.pointer (some ⟨g,off,none⟩))) (hy:ev L y=some v) (hv:v.cells=vs.toArray) (hk:vs.length=kk) (h1:vs.all (·.oneCell')=true) (i j:Nat) (ho:off=i * k+j) (hi:xss[i]? = some c) (hjk:j+kk≤k) (hc:c.take j++(vs++c.drop (j+kk))=c')
  (kk':SX n E I L (.blk g t' (xss.set i c').flatten::H) K):SX n E I L (.blk g t' xss.flatten::H) (one P ops Q ⟨none,.store tt x y,ty,pos,af,none⟩ K):=by
 subst ho;have hil:i<xss.length:=(List.getElem?_eq_some_iff.1 hi).1;have hcl:c.length=k:=hU c (List.mem_of_getElem? hi)
 have hc'l:c'.length=k:=by
  rw[←hc,List.length_append,List.length_append,List.length_take,List.length_drop,hk];omega
 have hspl:xss=xss.take i++c::xss.drop (i+1):=by
  have h2:xss[i]=c:=by rw[List.getElem?_eq_getElem hil]at hi;exact Option.some.inj hi
  rw[←h2,←List.drop_eq_getElem_cons hil,List.take_append_drop]
 have hfl:xss.flatten=(xss.take i).flatten++(c++(xss.drop (i+1)).flatten):=by
  conv=>lhs;rw[hspl]
  simp
 have hpl:(xss.take i).flatten.length=i * k:=by rw[a3a (hU.take i),List.length_take,Nat.min_eq_left oM]
 refine d4c vs _ ht hx hy hv hk ?_ h1 ?_ kk'
 ·apply Nat.ble_eq_true_of_le
  rw[a3a hU];have:(i+1) * k≤xss.length * k:=Nat.mul_le_mul_right _ hil;rw[Nat.add_mul]at this
  omega
 ·rw[List.set_eq_take_append_cons_drop,if_pos hil,hfl];rw[List.flatten_append,List.flatten_cons]
  have e1:((xss.take i).flatten++(c++(xss.drop (i+1)).flatten)).take (i * k+j)=(xss.take i).flatten++c.take j:=by
   rw[←hpl,List.take_length_add_append,List.take_append_of_le_length oM]
  have e2:((xss.take i).flatten++(c++(xss.drop (i+1)).flatten)).drop (i * k+j+kk)=c.drop (j+kk)++(xss.drop (i+1)).flatten:=by
   rw[←hpl,Nat.add_assoc,List.drop_length_add_append,List.drop_append_of_le_length oM]
  rw[e1,e2,←hc]
  simp
end
end Go.Sx
namespace Go.Proofs.YtkndpfncklhhlaaGreat
open Go Go.Sx Tryz
set_option linter.all false
set_option maxRecDepth 20000
set_option maxHeartbeats 4000000
instance:Has (a3C prog 29 0) (0,true,1):=hk
instance:Has (a3C prog 29 1) (1,true,3):=hk
instance:Has (prog.underlying 186) (.map 9 9):=hk
theorem b6j (I:IMap) (v:Value) (l:List Part) (hv:RdS I v l) (s:ByteArray) (hN:b8j l≤12) :
    FnX prog 80 #[.agg #[v],.string s] I [] (fun u r=>∃ns,r = .row u 9 1 ns.length (a2v ns).flatten∧(∀n,n∈ns↔a8E l s n)∧ns.length≤12):=by
 have hv0:=hv;obtain⟨A,c0,rfl,hA,hc,hm⟩:=hv;refine enter func80 call80 rfl ntmps80 rfl fun w0=>?_;refine go 4 fun g2=>?_
 refine go 7 ?_;refine a3f (d3K _ _ l hv0) rfl rfl fun v20 s20 q20=>?_;obtain⟨m20,kvs,rfl,rfl,hIx,hnd⟩:=q20;obtain⟨z,b,hz,hb,hfs,hfn⟩:=hIx.look s;refine go 2 fun g5=>?_
 refine go 10 ?_;refine o_v rfl (a8v m1 (a0O he) he he (s) rfl rfl hz hb) ?_;refine gC 13 (fun h29 p29=>?_) fun h29 p29=>?_
 ·refine go 8 ?_;refine a0a ?_;refine a0a ?_;refine a0a ?_;refine a0G 9 1 ?_;exact q_x ⟨[],rfl,fun n=>⟨fun h=>(by cases h),fun h=>absurd h (c1J (hfn (by simpa using h29)) n)⟩,Nat.zero_le _⟩
 ·have hsome:(a0C l s).isSome=true:=by
    obtain⟨i,hi,_,hF⟩:=hfs (by simpa using h29);rw[hF];rfl
  refine go 5 ?_;refine a7z (Value.string) he rfl fun r30=>?_;refine go 7 ?_;refine a0c ?_;refine b1u fun S0 hO0 hT0 hS0=>?_;refine go 2 ?_;refine c1O hS0 he rfl rfl fun i33=>?_;refine go 3 ?_;refine a0A ?_;refine a0a ?_
  refine a2B (S0) (kvs) ([]) (fun S todo done=>I)
   (fun S todo done=>[(1,.string s),(5,.pointer (some ⟨g5,0,none⟩)),(8,.map (some r30)),(33,.pointer (some ⟨i33,0,none⟩))])
   (fun S todo done=>[.any i33 (S.it m20),.any m20 S.mp,.mp r30 (a2l Value.string (a3s (a4h l (done.map Prod.fst)))),.blk g5 169 [.slice A l.length c0,.map (some m20)]])
   (fun S todo done=>S.Ok Value.string kvs∧S.Todo Value.string todo∧(done++todo).Perm kvs)
   (fun S todo done=>todo.length) ⟨hO0,hT0,.refl _⟩ rfl sb rfl ?_
  intro S todo done ⟨hO,hT,hP⟩;refine go 3 ?_;refine a0b ?_;refine a0b ?_;refine c6O hO hT rfl rfl fun q34 S34 t34 hst=>?_;refine o_v rfl (a7N rfl (c1F _ _)) ?_;refine gC 3 (fun h35 p35=>?_) fun h35 p35=>?_
  ·obtain⟨p,a,b,htd,hO1,hT1,hA1,rfl,rfl⟩:=hst.some h35;have hpk:=c4U hP htd;have hpn:=c4V hP htd hnd;obtain⟨i,hi,hpv,hF⟩:=hIx.mem hnd hpk;have hup:upP l p.1=l[i].into:=by unfold upP;rw[hF];rfl
   refine go 5 ?_;refine o_v rfl (c3a m0 m1 hO1 hA1 rfl) ?_;refine go 1 ?_;refine o_v rfl (OV.cast (u:=.int .i64 ((i:Nat):Int)) (a7N rfl rfl) hpv) ?_;refine go 9 ?_;obtain⟨b42,o42,w42,e42,c42,r42⟩:=RdA.at_ hA (i:=i) hi;obtain⟨q42,rfl,B42,d42,rfl,hB42,hd42,hm42⟩:=r42;refine o_v rfl (a0i he rfl rfl e42 (i) rfl hi) ?_;refine go 1 ?_;refine o_v rfl (OV.cast (u:=.string (upP l p.1)) (a1X he rfl (c42 2 _ rfl)) (congrArg Value.string hup.symm)) ?_;refine gC 9 (fun h46 p46=>?_) fun h46 p46=>?_
   ·refine go 5 ?_;refine a0c ?_;refine a4l (a3s ((a4h l (done.map Prod.fst))++[(p.1,upP l p.1)])) (a0O he) he (p.1) rfl rfl rfl (c0h (c4h hpn)) ?_;refine go 3 ?_;refine a0p ?_;refine a0b ?_;refine a0p ?_;refine a0p ?_;exact a1r (S34) (a++b) (done++[p]) ⟨hO1,hT1,a7C hP htd⟩ (by rw[htd];simp) rfl sb (by rw[c0u p46])
   ·refine go 3 ?_;exact a1r (S34) (a++b) (done++[p]) ⟨hO1,hT1,a7C hP htd⟩ (by rw[htd];simp) rfl sb (by rw[c0t (by simpa using h46)])
  ·obtain⟨rfl,rfl,rfl⟩:=hst.none h35;have hdp:done.Perm kvs:=by simpa using hP
   refine go 10 ?_;refine a0c ?_;refine b6P (a0O he) he s rfl rfl ?_;rw[b2X (c8c hnd hdp)];have hB0:=Bfs.start (v:=s) hIx hnd hdp;refine go 4 ?_;refine a0G 9 1 ?_;refine go 9 fun v53=>?_
   refine a0d (l:=[s]) rfl rfl ((.one rfl)) fun I53 j53 R53=>?_;have R53s:=R53;obtain⟨A53,c53,rfl,_,_,_⟩:=R53s;refine go 4 ?_;refine a0c ?_;refine a0a ?_;refine a0c ?_;refine a0a ?_;refine a0c ?_;refine a0a ?_
   refine b9N (_) ([s]) ([]) (A53) (c53) (_) ([]) (I53) (fun R lst out A1 c1 v12 xs J=>J)
    (fun R lst out A1 c1 v12 xs J=>[(8,.map (some r30)),(12,v12),(13,.slice A1 lst.length c1)])
    (fun R lst out A1 c1 v12 xs J=>[.row v12 9 1 out.length xs,.mp r30 (a2l Value.string (a3s R))])
    (fun R lst out A1 c1 v12 xs J=>RdS J (.slice A1 lst.length c1) lst∧Flat J xs out∧Bfs l s R lst out)
    (fun R lst out A1 c1 v12 xs J=>R.length+R.length+min lst.length 1) ⟨R53,.nil,hB0⟩ rfl sb rfl ?_
   intro R lst out A1 c1 v12 xs J ⟨hL,hFo,hB⟩;have hlen:=hB.len;refine gC 8 (fun h56 p56=>?_) fun h56 p56=>?_
   ·refine go 5 ?_;refine a0G 9 1 ?_;refine go 6 ?_;refine a0c ?_;refine b1u fun S0 hO0 hT0 hS0=>?_;refine go 2 ?_;refine c1O hS0 he rfl rfl fun i58=>?_;refine go 3 ?_
    refine a6N (S0) (R) ([]) (_) ([]) (fun S todo done v14 ys=>J)
     (fun S todo done v14 ys=>[(8,.map (some r30)),(12,v12),(13,.slice A1 lst.length c1),(14,v14),(58,.pointer (some ⟨i58,0,none⟩))])
     (fun S todo done v14 ys=>[.any i58 (S.it r30),.any r30 S.mp,.row v14 9 1 (a2G lst done).length ys,.row v12 9 1 out.length xs])
     (fun S todo done v14 ys=>S.Ok Value.string (a3s R)∧S.Todo Value.string (a3s todo)∧(done++todo).Perm R∧Flat J ys (a2G lst done))
     (fun S todo done v14 ys=>todo.length) ⟨hO0,hT0,.refl _,.nil⟩ rfl sb rfl ?_
    intro S todo done v14 ys ⟨hO,hT,hP,hFy⟩;have hdl:=hP.length_eq;rw[List.length_append]at hdl
    have hnl:=c1G (lst:=lst) done;refine go 3 ?_;refine a0b ?_;refine a0b ?_;refine c6O hO hT rfl rfl fun q59 S59 t59 hst=>?_;refine o_v rfl (a7N rfl (c1F _ _)) ?_;refine gC 3 (fun h60 p60=>?_) fun h60 p60=>?_
    ·obtain⟨n,u,a,b,htd,hO1,hT1,hA1,rfl⟩:=hst.nu h60;refine go 5 ?_;refine o_v rfl (c3a m0 m1 hO1 hA1 rfl) ?_;refine go 11 ?_;refine cV (a4r _ _ lst hL u) ?_;refine gC 2 (fun h66 p66=>?_) fun h66 p66=>?_
     ·refine go 5 fun v69=>?_
      refine go 1 ?_;refine a0p ?_;refine a0o he he rfl rfl rfl rfl rfl oM oM rfl fun v70=>?_;refine go 4 ?_;refine a0b ?_;refine a0a ?_;refine a0p ?_;refine a0b ?_;refine a0p ?_;refine a0p ?_;exact a1R (S59) (a++b) (done++[(n,u)]) (_) (_) ⟨hO1,hT1,a7C hP htd,by rw[b3t (p:=(n,u)) p66];exact hFy.append (.one rfl)⟩ (by rw[htd];simp) rfl sb (by rw[b3t (p:=(n,u)) p66,List.length_append];rfl)
     ·refine go 3 ?_;exact a1R (S59) (a++b) (done++[(n,u)]) (_) (_) ⟨hO1,hT1,a7C hP htd,by rw[b6I (p:=(n,u)) p66];exact hFy⟩ (by rw[htd];simp) rfl sb (by rw[b6I (p:=(n,u)) p66])
    ·obtain⟨rfl,rfl,rfl⟩:=hst.nuNone h60;have hdp:done.Perm R:=by simpa using hP
     refine a0b ?_;refine b9h hO ?_;refine go 8 ?_;refine a0c ?_;refine a0d (l:=(a2G lst done)) rfl rfl (hFy) fun I71 j71 R71=>?_;have hFo:=hFo.le j71;have R71s:=R71;obtain⟨A14,c14,rfl,hA71,_,_⟩:=R71s;refine go 6 ?_;refine a0b ?_;refine a0a ?_
     refine a0w (α:=Nat) 0 (fun i=>I71)
      (fun i=>[(8,.map (some r30)),(12,v12),(14,.slice A14 (a2G lst done).length c14),(71,.slice A14 (a2G lst done).length c14),(72,.int .i64 (((a2G lst done).length:Nat):Int)),(73,.int .i64 ((i:Nat):Int))])
      (fun i=>[.mp r30 (a2l Value.string (a3s (a7F R ((a2G lst done).take i)))),.row v12 9 1 out.length xs])
      (fun i=>i≤(a2G lst done).length)
      (fun i=>(a2G lst done).length-i) (Nat.zero_le _) rfl sb (by rw[List.take_zero,c2r]) ?_
     intro i hi;refine gC 6 (fun h74 p74=>?_) fun h74 p74=>?_
     ·have hlt:i<(a2G lst done).length:=oM;refine go 6 ?_;obtain⟨b75,o75,w75,e75,c75,r75⟩:=RdA.at_ hA71 (i:=i) oM;obtain rfl:=r75;refine go 9 ?_;refine b6P (a0O he) he ((a2G lst done)[i]) rfl rfl ?_;rw[b9a hlt hB.kn];refine go 8 ?_;exact a0s (i+1) oM oM rfl sb rfl
     ·obtain rfl:i=(a2G lst done).length:=oM;rw[List.take_length];refine go 10 ?_;refine a0b ?_;refine a0y (R71) rfl he he rfl rfl rfl rfl oM oM rfl fun v82 x82 f82=>?_;refine go 9 ?_;exact b5t (a7F R (a2G lst done)) ((a2G lst done)) (out++(a2G lst done)) (A14) (c14) (_) (_) (I71) ⟨R71,hFo.append f82,hB.step hsome hdp⟩ (by have:=b6J (lst:=lst) hB.kn hdp;omega) rfl sb (by rw[List.length_append])
   ·obtain rfl:lst=[]:=List.eq_nil_of_length_eq_zero oM;refine go 9 ?_;refine a1m (b7B _ _ out xs hFo oM) rfl rfl fun v85 s85 q85=>?_;obtain⟨rfl,m,ys,hpm,hFm,rfl⟩:=q85;refine go 10 ?_;refine a0b ?_;refine a0a ?_;exact q_x ⟨m,by rw[hpm.1,c4p hFm],fun n=>(hpm.2 n).trans hB.over,by have:=hpm.1;omega⟩
theorem c8B (I:IMap) {xss:List (List Value)} (g t i:Nat) (hU:Uk 14 xss) (p:Part) (q:Value) (hi:xss[i]? = some (p.cells q)) (u:Use) (dd:Ivl) (off:Nat) (ho:off=i * 14+8) :
    FnM prog 84 #[.pointer (some ⟨g,off,none⟩),.agg u.cells.toArray,.agg dd.cells.toArray] I (.blk g t xss.flatten) (.blk g t (xss.set i ((a5O dd u p).cells q)).flatten):=by
 refine enter func84 call84 rfl ntmps84 rfl fun w0=>?_;refine go 4 fun g4=>?_
 refine go 2 fun g5=>?_
 refine go 2 ?_;refine a0c ?_;refine ds1 ?_;refine dG 0 6 ?_;refine dG 7 1 ?_;refine a0F 8 rfl rfl (by kernel_rfl) rfl (.cons _ (.refl _)) rfl (a0J (u.km.cells) m1 he rfl rfl rfl) ?_;refine dG 10 3 ?_;refine dG 14 1 ?_;refine a0F 15 rfl rfl (by kernel_rfl) rfl (.cons _ (.refl _)) rfl (a0J (u.cycles.cells) m1 he rfl rfl rfl) ?_;refine dG 17 3 ?_;refine dG 21 1 ?_;refine dT3 6 13 20 ?_ ?_ ?_
 ·refine a0k rfl (a2k (p.life.km.cells) m0 hU he rfl (i) 8 oM hi rfl rfl rfl) ?_;refine go 1 ?_;refine dT3 9 13 20 ?_ ?_ ?_
  ·refine cV (a2f _ p.life.km u.km) ?_;refine go 1 ?_;refine dT2 13 20 ?_ ?_
   ·refine a0k rfl (a2k (p.life.cycles.cells) m0 hU he rfl (i) 10 oM hi rfl rfl rfl) ?_;refine go 1 ?_;refine dT2 16 20 ?_ ?_
    ·refine cV (a2f _ p.life.cycles u.cycles) ?_;refine dH 20 0 ?_;refine a0k rfl (a2k (p.life.damage.cells) m0 hU he rfl (i) 12 oM hi rfl rfl rfl) ?_;refine dH 22 0 ?_;refine cV (a2f _ p.life.damage dd) ?_;refine dH 23 2 ?_;refine a0Y _ _ (by first|exact hU|exact hU.set rfl _|exact (hU.set rfl _).set rfl _) he rfl rfl rfl rfl rfl (i) 8 oM (by first|exact hi|exact a0g hi|exact a0g (a0g hi)) (by decide) rfl ?_;refine dH 26 2 ?_;refine a0Y _ _ (by first|exact hU|exact hU.set rfl _|exact (hU.set rfl _).set rfl _) he rfl rfl rfl rfl rfl (i) 10 oM (by first|exact hi|exact a0g hi|exact a0g (a0g hi)) (by decide) rfl ?_;refine dH 29 2 ?_;refine a0Y _ _ (by first|exact hU|exact hU.set rfl _|exact (hU.set rfl _).set rfl _) he rfl rfl rfl rfl rfl (i) 12 oM (by first|exact hi|exact a0g hi|exact a0g (a0g hi)) (by decide) rfl ?_;refine go 3 ?_;refine a0b ?_;refine a0a ?_;refine a0b ?_;refine a0a ?_;exact b3K (by rw[List.set_set,List.set_set];rfl)
    ·refine a0k rfl (a2k (p.life.damage.cells) m0 hU he rfl (i) 12 oM hi rfl rfl rfl) ?_;refine dH 16 0 ?_;refine cV (a2f _ p.life.cycles u.cycles) ?_;refine dH 22 0 ?_;refine cV (a2f _ p.life.damage dd) ?_;refine dH 23 2 ?_;refine a0Y _ _ (by first|exact hU|exact hU.set rfl _|exact (hU.set rfl _).set rfl _) he rfl rfl rfl rfl rfl (i) 8 oM (by first|exact hi|exact a0g hi|exact a0g (a0g hi)) (by decide) rfl ?_;refine dH 26 2 ?_;refine a0Y _ _ (by first|exact hU|exact hU.set rfl _|exact (hU.set rfl _).set rfl _) he rfl rfl rfl rfl rfl (i) 10 oM (by first|exact hi|exact a0g hi|exact a0g (a0g hi)) (by decide) rfl ?_;refine dH 29 2 ?_;refine a0Y _ _ (by first|exact hU|exact hU.set rfl _|exact (hU.set rfl _).set rfl _) he rfl rfl rfl rfl rfl (i) 12 oM (by first|exact hi|exact a0g hi|exact a0g (a0g hi)) (by decide) rfl ?_;refine go 3 ?_;refine a0b ?_;refine a0a ?_;refine a0b ?_;refine a0a ?_;exact b3K (by rw[List.set_set,List.set_set];rfl)
   ·refine a0k rfl (a2k (p.life.damage.cells) m0 hU he rfl (i) 12 oM hi rfl rfl rfl) ?_;refine dH 13 0 ?_;refine a0k rfl (a2k (p.life.cycles.cells) m0 hU he rfl (i) 10 oM hi rfl rfl rfl) ?_;refine dH 16 0 ?_;refine cV (a2f _ p.life.cycles u.cycles) ?_;refine dH 22 0 ?_;refine cV (a2f _ p.life.damage dd) ?_;refine dH 23 2 ?_;refine a0Y _ _ (by first|exact hU|exact hU.set rfl _|exact (hU.set rfl _).set rfl _) he rfl rfl rfl rfl rfl (i) 8 oM (by first|exact hi|exact a0g hi|exact a0g (a0g hi)) (by decide) rfl ?_;refine dH 26 2 ?_;refine a0Y _ _ (by first|exact hU|exact hU.set rfl _|exact (hU.set rfl _).set rfl _) he rfl rfl rfl rfl rfl (i) 10 oM (by first|exact hi|exact a0g hi|exact a0g (a0g hi)) (by decide) rfl ?_;refine dH 29 2 ?_;refine a0Y _ _ (by first|exact hU|exact hU.set rfl _|exact (hU.set rfl _).set rfl _) he rfl rfl rfl rfl rfl (i) 12 oM (by first|exact hi|exact a0g hi|exact a0g (a0g hi)) (by decide) rfl ?_;refine go 3 ?_;refine a0b ?_;refine a0a ?_;refine a0b ?_;refine a0a ?_;exact b3K (by rw[List.set_set,List.set_set];rfl)
  ·refine a0k rfl (a2k (p.life.cycles.cells) m0 hU he rfl (i) 10 oM hi rfl rfl rfl) ?_;refine go 1 ?_;refine dT2 9 20 ?_ ?_
   ·refine cV (a2f _ p.life.km u.km) ?_;refine go 1 ?_;refine dT2 16 20 ?_ ?_
    ·refine cV (a2f _ p.life.cycles u.cycles) ?_;refine dH 20 0 ?_;refine a0k rfl (a2k (p.life.damage.cells) m0 hU he rfl (i) 12 oM hi rfl rfl rfl) ?_;refine dH 22 0 ?_;refine cV (a2f _ p.life.damage dd) ?_;refine dH 23 2 ?_;refine a0Y _ _ (by first|exact hU|exact hU.set rfl _|exact (hU.set rfl _).set rfl _) he rfl rfl rfl rfl rfl (i) 8 oM (by first|exact hi|exact a0g hi|exact a0g (a0g hi)) (by decide) rfl ?_;refine dH 26 2 ?_;refine a0Y _ _ (by first|exact hU|exact hU.set rfl _|exact (hU.set rfl _).set rfl _) he rfl rfl rfl rfl rfl (i) 10 oM (by first|exact hi|exact a0g hi|exact a0g (a0g hi)) (by decide) rfl ?_;refine dH 29 2 ?_;refine a0Y _ _ (by first|exact hU|exact hU.set rfl _|exact (hU.set rfl _).set rfl _) he rfl rfl rfl rfl rfl (i) 12 oM (by first|exact hi|exact a0g hi|exact a0g (a0g hi)) (by decide) rfl ?_;refine go 3 ?_;refine a0b ?_;refine a0a ?_;refine a0b ?_;refine a0a ?_;exact b3K (by rw[List.set_set,List.set_set];rfl)
    ·refine a0k rfl (a2k (p.life.damage.cells) m0 hU he rfl (i) 12 oM hi rfl rfl rfl) ?_;refine dH 16 0 ?_;refine cV (a2f _ p.life.cycles u.cycles) ?_;refine dH 22 0 ?_;refine cV (a2f _ p.life.damage dd) ?_;refine dH 23 2 ?_;refine a0Y _ _ (by first|exact hU|exact hU.set rfl _|exact (hU.set rfl _).set rfl _) he rfl rfl rfl rfl rfl (i) 8 oM (by first|exact hi|exact a0g hi|exact a0g (a0g hi)) (by decide) rfl ?_;refine dH 26 2 ?_;refine a0Y _ _ (by first|exact hU|exact hU.set rfl _|exact (hU.set rfl _).set rfl _) he rfl rfl rfl rfl rfl (i) 10 oM (by first|exact hi|exact a0g hi|exact a0g (a0g hi)) (by decide) rfl ?_;refine dH 29 2 ?_;refine a0Y _ _ (by first|exact hU|exact hU.set rfl _|exact (hU.set rfl _).set rfl _) he rfl rfl rfl rfl rfl (i) 12 oM (by first|exact hi|exact a0g hi|exact a0g (a0g hi)) (by decide) rfl ?_;refine go 3 ?_;refine a0b ?_;refine a0a ?_;refine a0b ?_;refine a0a ?_;exact b3K (by rw[List.set_set,List.set_set];rfl)
   ·refine a0k rfl (a2k (p.life.damage.cells) m0 hU he rfl (i) 12 oM hi rfl rfl rfl) ?_;refine dH 9 0 ?_;refine cV (a2f _ p.life.km u.km) ?_;refine dH 16 0 ?_;refine cV (a2f _ p.life.cycles u.cycles) ?_;refine dH 22 0 ?_;refine cV (a2f _ p.life.damage dd) ?_;refine dH 23 2 ?_;refine a0Y _ _ (by first|exact hU|exact hU.set rfl _|exact (hU.set rfl _).set rfl _) he rfl rfl rfl rfl rfl (i) 8 oM (by first|exact hi|exact a0g hi|exact a0g (a0g hi)) (by decide) rfl ?_;refine dH 26 2 ?_;refine a0Y _ _ (by first|exact hU|exact hU.set rfl _|exact (hU.set rfl _).set rfl _) he rfl rfl rfl rfl rfl (i) 10 oM (by first|exact hi|exact a0g hi|exact a0g (a0g hi)) (by decide) rfl ?_;refine dH 29 2 ?_;refine a0Y _ _ (by first|exact hU|exact hU.set rfl _|exact (hU.set rfl _).set rfl _) he rfl rfl rfl rfl rfl (i) 12 oM (by first|exact hi|exact a0g hi|exact a0g (a0g hi)) (by decide) rfl ?_;refine go 3 ?_;refine a0b ?_;refine a0a ?_;refine a0b ?_;refine a0a ?_;exact b3K (by rw[List.set_set,List.set_set];rfl)
  ·refine a0k rfl (a2k (p.life.damage.cells) m0 hU he rfl (i) 12 oM hi rfl rfl rfl) ?_;refine go 1 ?_;refine dT2 9 13 ?_ ?_
   ·refine cV (a2f _ p.life.km u.km) ?_;refine dH 13 0 ?_;refine a0k rfl (a2k (p.life.cycles.cells) m0 hU he rfl (i) 10 oM hi rfl rfl rfl) ?_;refine dH 16 0 ?_;refine cV (a2f _ p.life.cycles u.cycles) ?_;refine dH 22 0 ?_;refine cV (a2f _ p.life.damage dd) ?_;refine dH 23 2 ?_;refine a0Y _ _ (by first|exact hU|exact hU.set rfl _|exact (hU.set rfl _).set rfl _) he rfl rfl rfl rfl rfl (i) 8 oM (by first|exact hi|exact a0g hi|exact a0g (a0g hi)) (by decide) rfl ?_;refine dH 26 2 ?_;refine a0Y _ _ (by first|exact hU|exact hU.set rfl _|exact (hU.set rfl _).set rfl _) he rfl rfl rfl rfl rfl (i) 10 oM (by first|exact hi|exact a0g hi|exact a0g (a0g hi)) (by decide) rfl ?_;refine dH 29 2 ?_;refine a0Y _ _ (by first|exact hU|exact hU.set rfl _|exact (hU.set rfl _).set rfl _) he rfl rfl rfl rfl rfl (i) 12 oM (by first|exact hi|exact a0g hi|exact a0g (a0g hi)) (by decide) rfl ?_;refine go 3 ?_;refine a0b ?_;refine a0a ?_;refine a0b ?_;refine a0a ?_;exact b3K (by rw[List.set_set,List.set_set];rfl)
   ·refine a0k rfl (a2k (p.life.cycles.cells) m0 hU he rfl (i) 10 oM hi rfl rfl rfl) ?_;refine dH 9 0 ?_;refine cV (a2f _ p.life.km u.km) ?_;refine dH 16 0 ?_;refine cV (a2f _ p.life.cycles u.cycles) ?_;refine dH 22 0 ?_;refine cV (a2f _ p.life.damage dd) ?_;refine dH 23 2 ?_;refine a0Y _ _ (by first|exact hU|exact hU.set rfl _|exact (hU.set rfl _).set rfl _) he rfl rfl rfl rfl rfl (i) 8 oM (by first|exact hi|exact a0g hi|exact a0g (a0g hi)) (by decide) rfl ?_;refine dH 26 2 ?_;refine a0Y _ _ (by first|exact hU|exact hU.set rfl _|exact (hU.set rfl _).set rfl _) he rfl rfl rfl rfl rfl (i) 10 oM (by first|exact hi|exact a0g hi|exact a0g (a0g hi)) (by decide) rfl ?_;refine dH 29 2 ?_;refine a0Y _ _ (by first|exact hU|exact hU.set rfl _|exact (hU.set rfl _).set rfl _) he rfl rfl rfl rfl rfl (i) 12 oM (by first|exact hi|exact a0g hi|exact a0g (a0g hi)) (by decide) rfl ?_;refine go 3 ?_;refine a0b ?_;refine a0a ?_;refine a0b ?_;refine a0a ?_;exact b3K (by rw[List.set_set,List.set_set];rfl)
 ·refine a0k rfl (a2k (p.life.cycles.cells) m0 hU he rfl (i) 10 oM hi rfl rfl rfl) ?_;refine go 1 ?_;refine dT2 6 20 ?_ ?_
  ·refine a0k rfl (a2k (p.life.km.cells) m0 hU he rfl (i) 8 oM hi rfl rfl rfl) ?_;refine go 1 ?_;refine dT2 9 20 ?_ ?_
   ·refine cV (a2f _ p.life.km u.km) ?_;refine go 1 ?_;refine dT2 16 20 ?_ ?_
    ·refine cV (a2f _ p.life.cycles u.cycles) ?_;refine dH 20 0 ?_;refine a0k rfl (a2k (p.life.damage.cells) m0 hU he rfl (i) 12 oM hi rfl rfl rfl) ?_;refine dH 22 0 ?_;refine cV (a2f _ p.life.damage dd) ?_;refine dH 23 2 ?_;refine a0Y _ _ (by first|exact hU|exact hU.set rfl _|exact (hU.set rfl _).set rfl _) he rfl rfl rfl rfl rfl (i) 8 oM (by first|exact hi|exact a0g hi|exact a0g (a0g hi)) (by decide) rfl ?_;refine dH 26 2 ?_;refine a0Y _ _ (by first|exact hU|exact hU.set rfl _|exact (hU.set rfl _).set rfl _) he rfl rfl rfl rfl rfl (i) 10 oM (by first|exact hi|exact a0g hi|exact a0g (a0g hi)) (by decide) rfl ?_;refine dH 29 2 ?_;refine a0Y _ _ (by first|exact hU|exact hU.set rfl _|exact (hU.set rfl _).set rfl _) he rfl rfl rfl rfl rfl (i) 12 oM (by first|exact hi|exact a0g hi|exact a0g (a0g hi)) (by decide) rfl ?_;refine go 3 ?_;refine a0b ?_;refine a0a ?_;refine a0b ?_;refine a0a ?_;exact b3K (by rw[List.set_set,List.set_set];rfl)
    ·refine a0k rfl (a2k (p.life.damage.cells) m0 hU he rfl (i) 12 oM hi rfl rfl rfl) ?_;refine dH 16 0 ?_;refine cV (a2f _ p.life.cycles u.cycles) ?_;refine dH 22 0 ?_;refine cV (a2f _ p.life.damage dd) ?_;refine dH 23 2 ?_;refine a0Y _ _ (by first|exact hU|exact hU.set rfl _|exact (hU.set rfl _).set rfl _) he rfl rfl rfl rfl rfl (i) 8 oM (by first|exact hi|exact a0g hi|exact a0g (a0g hi)) (by decide) rfl ?_;refine dH 26 2 ?_;refine a0Y _ _ (by first|exact hU|exact hU.set rfl _|exact (hU.set rfl _).set rfl _) he rfl rfl rfl rfl rfl (i) 10 oM (by first|exact hi|exact a0g hi|exact a0g (a0g hi)) (by decide) rfl ?_;refine dH 29 2 ?_;refine a0Y _ _ (by first|exact hU|exact hU.set rfl _|exact (hU.set rfl _).set rfl _) he rfl rfl rfl rfl rfl (i) 12 oM (by first|exact hi|exact a0g hi|exact a0g (a0g hi)) (by decide) rfl ?_;refine go 3 ?_;refine a0b ?_;refine a0a ?_;refine a0b ?_;refine a0a ?_;exact b3K (by rw[List.set_set,List.set_set];rfl)
   ·refine a0k rfl (a2k (p.life.damage.cells) m0 hU he rfl (i) 12 oM hi rfl rfl rfl) ?_;refine dH 9 0 ?_;refine cV (a2f _ p.life.km u.km) ?_;refine dH 16 0 ?_;refine cV (a2f _ p.life.cycles u.cycles) ?_;refine dH 22 0 ?_;refine cV (a2f _ p.life.damage dd) ?_;refine dH 23 2 ?_;refine a0Y _ _ (by first|exact hU|exact hU.set rfl _|exact (hU.set rfl _).set rfl _) he rfl rfl rfl rfl rfl (i) 8 oM (by first|exact hi|exact a0g hi|exact a0g (a0g hi)) (by decide) rfl ?_;refine dH 26 2 ?_;refine a0Y _ _ (by first|exact hU|exact hU.set rfl _|exact (hU.set rfl _).set rfl _) he rfl rfl rfl rfl rfl (i) 10 oM (by first|exact hi|exact a0g hi|exact a0g (a0g hi)) (by decide) rfl ?_;refine dH 29 2 ?_;refine a0Y _ _ (by first|exact hU|exact hU.set rfl _|exact (hU.set rfl _).set rfl _) he rfl rfl rfl rfl rfl (i) 12 oM (by first|exact hi|exact a0g hi|exact a0g (a0g hi)) (by decide) rfl ?_;refine go 3 ?_;refine a0b ?_;refine a0a ?_;refine a0b ?_;refine a0a ?_;exact b3K (by rw[List.set_set,List.set_set];rfl)
  ·refine a0k rfl (a2k (p.life.damage.cells) m0 hU he rfl (i) 12 oM hi rfl rfl rfl) ?_;refine dH 6 0 ?_;refine a0k rfl (a2k (p.life.km.cells) m0 hU he rfl (i) 8 oM hi rfl rfl rfl) ?_;refine dH 9 0 ?_;refine cV (a2f _ p.life.km u.km) ?_;refine dH 16 0 ?_;refine cV (a2f _ p.life.cycles u.cycles) ?_;refine dH 22 0 ?_;refine cV (a2f _ p.life.damage dd) ?_;refine dH 23 2 ?_;refine a0Y _ _ (by first|exact hU|exact hU.set rfl _|exact (hU.set rfl _).set rfl _) he rfl rfl rfl rfl rfl (i) 8 oM (by first|exact hi|exact a0g hi|exact a0g (a0g hi)) (by decide) rfl ?_;refine dH 26 2 ?_;refine a0Y _ _ (by first|exact hU|exact hU.set rfl _|exact (hU.set rfl _).set rfl _) he rfl rfl rfl rfl rfl (i) 10 oM (by first|exact hi|exact a0g hi|exact a0g (a0g hi)) (by decide) rfl ?_;refine dH 29 2 ?_;refine a0Y _ _ (by first|exact hU|exact hU.set rfl _|exact (hU.set rfl _).set rfl _) he rfl rfl rfl rfl rfl (i) 12 oM (by first|exact hi|exact a0g hi|exact a0g (a0g hi)) (by decide) rfl ?_;refine go 3 ?_;refine a0b ?_;refine a0a ?_;refine a0b ?_;refine a0a ?_;exact b3K (by rw[List.set_set,List.set_set];rfl)
 ·refine a0k rfl (a2k (p.life.damage.cells) m0 hU he rfl (i) 12 oM hi rfl rfl rfl) ?_;refine go 1 ?_;refine dT2 6 13 ?_ ?_
  ·refine a0k rfl (a2k (p.life.km.cells) m0 hU he rfl (i) 8 oM hi rfl rfl rfl) ?_;refine go 1 ?_;refine dT2 9 13 ?_ ?_
   ·refine cV (a2f _ p.life.km u.km) ?_;refine dH 13 0 ?_;refine a0k rfl (a2k (p.life.cycles.cells) m0 hU he rfl (i) 10 oM hi rfl rfl rfl) ?_;refine dH 16 0 ?_;refine cV (a2f _ p.life.cycles u.cycles) ?_;refine dH 22 0 ?_;refine cV (a2f _ p.life.damage dd) ?_;refine dH 23 2 ?_;refine a0Y _ _ (by first|exact hU|exact hU.set rfl _|exact (hU.set rfl _).set rfl _) he rfl rfl rfl rfl rfl (i) 8 oM (by first|exact hi|exact a0g hi|exact a0g (a0g hi)) (by decide) rfl ?_;refine dH 26 2 ?_;refine a0Y _ _ (by first|exact hU|exact hU.set rfl _|exact (hU.set rfl _).set rfl _) he rfl rfl rfl rfl rfl (i) 10 oM (by first|exact hi|exact a0g hi|exact a0g (a0g hi)) (by decide) rfl ?_;refine dH 29 2 ?_;refine a0Y _ _ (by first|exact hU|exact hU.set rfl _|exact (hU.set rfl _).set rfl _) he rfl rfl rfl rfl rfl (i) 12 oM (by first|exact hi|exact a0g hi|exact a0g (a0g hi)) (by decide) rfl ?_;refine go 3 ?_;refine a0b ?_;refine a0a ?_;refine a0b ?_;refine a0a ?_;exact b3K (by rw[List.set_set,List.set_set];rfl)
   ·refine a0k rfl (a2k (p.life.cycles.cells) m0 hU he rfl (i) 10 oM hi rfl rfl rfl) ?_;refine dH 9 0 ?_;refine cV (a2f _ p.life.km u.km) ?_;refine dH 16 0 ?_;refine cV (a2f _ p.life.cycles u.cycles) ?_;refine dH 22 0 ?_;refine cV (a2f _ p.life.damage dd) ?_;refine dH 23 2 ?_;refine a0Y _ _ (by first|exact hU|exact hU.set rfl _|exact (hU.set rfl _).set rfl _) he rfl rfl rfl rfl rfl (i) 8 oM (by first|exact hi|exact a0g hi|exact a0g (a0g hi)) (by decide) rfl ?_;refine dH 26 2 ?_;refine a0Y _ _ (by first|exact hU|exact hU.set rfl _|exact (hU.set rfl _).set rfl _) he rfl rfl rfl rfl rfl (i) 10 oM (by first|exact hi|exact a0g hi|exact a0g (a0g hi)) (by decide) rfl ?_;refine dH 29 2 ?_;refine a0Y _ _ (by first|exact hU|exact hU.set rfl _|exact (hU.set rfl _).set rfl _) he rfl rfl rfl rfl rfl (i) 12 oM (by first|exact hi|exact a0g hi|exact a0g (a0g hi)) (by decide) rfl ?_;refine go 3 ?_;refine a0b ?_;refine a0a ?_;refine a0b ?_;refine a0a ?_;exact b3K (by rw[List.set_set,List.set_set];rfl)
  ·refine a0k rfl (a2k (p.life.cycles.cells) m0 hU he rfl (i) 10 oM hi rfl rfl rfl) ?_;refine dH 6 0 ?_;refine a0k rfl (a2k (p.life.km.cells) m0 hU he rfl (i) 8 oM hi rfl rfl rfl) ?_;refine dH 9 0 ?_;refine cV (a2f _ p.life.km u.km) ?_;refine dH 16 0 ?_;refine cV (a2f _ p.life.cycles u.cycles) ?_;refine dH 22 0 ?_;refine cV (a2f _ p.life.damage dd) ?_;refine dH 23 2 ?_;refine a0Y _ _ (by first|exact hU|exact hU.set rfl _|exact (hU.set rfl _).set rfl _) he rfl rfl rfl rfl rfl (i) 8 oM (by first|exact hi|exact a0g hi|exact a0g (a0g hi)) (by decide) rfl ?_;refine dH 26 2 ?_;refine a0Y _ _ (by first|exact hU|exact hU.set rfl _|exact (hU.set rfl _).set rfl _) he rfl rfl rfl rfl rfl (i) 10 oM (by first|exact hi|exact a0g hi|exact a0g (a0g hi)) (by decide) rfl ?_;refine dH 29 2 ?_;refine a0Y _ _ (by first|exact hU|exact hU.set rfl _|exact (hU.set rfl _).set rfl _) he rfl rfl rfl rfl rfl (i) 12 oM (by first|exact hi|exact a0g hi|exact a0g (a0g hi)) (by decide) rfl ?_;refine go 3 ?_;refine a0b ?_;refine a0a ?_;refine a0b ?_;refine a0a ?_;exact b3K (by rw[List.set_set,List.set_set];rfl)
theorem c1k (I:IMap) (x:Evt) (g:Nat) (day:Int) (cg:ICells I g 0 [ci day]) :
    FnV prog 77 #[.agg (Day.ch x).toArray,.pointer (some ⟨g,0,none⟩)] I (.bool (decide (x.day>day))):=by
 refine enter func77 call77 rfl ntmps77 rfl fun w0=>?_
 show SX _ _ _ (b1E [.agg x.cells.toArray,.pointer (some ⟨g,0,none⟩)] 0) _ _
 refine go 4 fun g2=>?_
 refine go 7 ?_;refine o_v rfl (a1X he rfl (cg 0 _ rfl)) ?_;refine go 6 ?_;exact q_v rfl
theorem c1m (I:IMap) (vc:Value) (c:List Kind) (hvc:RdS I vc c) (hsc:SmC c) (f:Fm) (sf:Value) (hf:FmRd I [ci f.op,ci f.n,sf] f) (v:Value) (l:List Evt) (hv:RdS I v l) (hl:l.length≤25) (hse:∀e∈l,SmE e) (day:Int) :
    FnI prog 42 #[.agg #[vc,ci f.op,ci f.n,sf],v,.int .i64 day] I (fun u J=>∃w,u = .tuple #[.agg #[w],.int .i64 (runL f c l day).2.1,.int .i64 (runL f c l day).2.2]∧RdS J w (runL f c l day).1):=by
 obtain⟨U,hUe⟩:∃U,a0Q (l.filter fun e=>!decide (e.day>day))=U:=⟨_,rfl⟩;have hUl:U.length≤25:=by rw[←hUe,a3X];exact Nat.le_trans (List.length_filter_le _ _) hl
 have hUs:∀e∈U,SmE e:=fun e he=>hse e (List.mem_filter.1 (a4B.1 (hUe▸he))).1
 refine enter func42 call42 rfl ntmps42 rfl fun w0=>?_;refine go 4 fun g3=>?_
 refine go 2 fun g5=>?_
 refine go 2 fun g6=>?_
 refine go 6 ?_;refine a1h (I':=I) (L':=[(1,v),(3,.pointer (some ⟨g3,0,none⟩)),(5,.pointer (some ⟨g5,0,none⟩)),(6,.pointer (some ⟨g6,0,none⟩)),(27,.bool (!a1a c || !a1p f))]) (H':=[.blk g3 29 [vc,ci f.op,ci f.n,sf],.blk g5 3 [ci day],.blk g6 97 [.slice none 0 0]]) ?_ ?_
 ·refine go 2 ?_;refine o_v rfl (a0J ([vc]) m2 he rfl rfl rfl) ?_;refine go 1 ?_;refine cV (a8H _ vc c hvc hsc) ?_;refine gS 2 22 (fun h22 p22=>?_) fun h22 p22=>?_
  ·refine go 7 ?_;refine a0b ?_;refine a0c ?_;exact a0h ⟨rfl,rfl,rfl,rfl,(bB (by simp only[h22,bS])),trivial⟩ rfl rfl
  ·refine go 1 ?_;refine a0P (a0z rfl rfl h22 (a0k rfl (a0J ([ci f.op,ci f.n,sf]) m2 he rfl rfl rfl) ?_));refine go 1 ?_;refine a0z rfl rfl h22 (a0x (c0G _ f _ hf) rfl rfl ?_);refine go 4 ?_;refine a0b ?_;refine a0c ?_;exact a0h ⟨rfl,rfl,rfl,rfl,(bB (by simp only[h22,bS])),trivial⟩ rfl rfl
 ·refine gC 0 (fun h27 p27=>?_) fun h27 p27=>?_
  ·refine go 4 ?_;refine a0c ?_;refine go 8 ?_;exact q_i ⟨_,by rw[a9b h27],by rw[a9b h27];exact RdS.nil'⟩
  ·refine go 6 ?_;refine a0b ?_;refine a1Z fun Ig5 jg5 cg5=>?_;have hvc:=hvc.le jg5;have hv:=hv.le jg5;have hf:=hf.le jg5;refine a3f (b9R _ v l hv oM) rfl rfl fun v30 s30 q30=>?_;obtain⟨xss,rfl,hx⟩:=q30;obtain rfl:=c0l hx;refine go 2 ?_;refine c8J (b0y _ _ l oM 77 [.pointer (some ⟨g5,0,none⟩)] (fun x=>decide (x.day>day)) (fun I2 hI2 x=>c1k I2 x g5 day (cg5.le hI2))) rfl rfl fun v32 I32 j32 q32=>?_;have hvc:=hvc.le j32;have hf:=hf.le j32;refine go 7 fun g10=>?_
   refine go 7 ?_;refine a0D (d3D _ _ (l.filter fun e=>!decide (e.day>day)) q32 (Nat.le_trans (List.length_filter_le _ _) oM)) rfl rfl fun v34 I34 j34 q34=>?_;have hvc:=hvc.le j34;have hf:=hf.le j34;rw[hUe]at q34
   have R34:=q34;obtain⟨A34,c34,rfl,hA34,_,_⟩:=q34;refine go 5 ?_;refine a0b ?_;refine a0c ?_;refine a0c ?_
   refine a2C ((0:Nat)) ([]) (.slice none 0 0) (I34) (fun i st v10 J=>J)
    (fun i st v10 J=>[(3,.pointer (some ⟨g3,0,none⟩)),(6,.pointer (some ⟨g6,0,none⟩)),(10,.pointer (some ⟨g10,0,none⟩)),(34,.slice A34 U.length c34),(35,.int .i64 ((U.length:Nat):Int)),(36,.int .i64 ((i:Nat):Int))])
    (fun i st v10 J=>[.blk g10 97 [v10],.blk g6 97 [.slice none 0 0],.blk g3 29 [vc,ci f.op,ci f.n,sf]])
    (fun i st v10 J=>i≤U.length∧ILe I34 J∧RdS J v10 st∧SmF st∧a9u st≤i∧runLGo f c st (i:Nat) (U.drop i)=runL f c l day)
    (fun i st v10 J=>U.length-i) ⟨Nat.zero_le _,ILe.refl _,RdS.nil',SmF.nil,Nat.le_refl _,by rw[c2u h27,hUe];rfl⟩ rfl sb rfl ?_
   intro i st v10 J ⟨hi,hJ,hv10,hsf,hcn,hgo⟩;have hvc:=hvc.le hJ;have hf:=hf.le hJ;have hA34:=hA34.le hJ;refine gC 6 (fun h37 p37=>?_) fun h37 p37=>?_
   ·have hlt:i<U.length:=oM;refine go 7 ?_;obtain⟨b39,o39,w39,e39,c39,r39⟩:=RdA.at_ hA34 (i:=i) oM;obtain rfl:=r39;refine go 4 fun g12=>?_
    refine go 8 ?_;refine o_v rfl (a0J ([vc]) m3 he rfl rfl rfl) ?_;refine go 3 ?_;refine a0D (c0z _ vc c hvc hsc v10 st hv10 hsf U[i] (hUs _ (List.getElem_mem hlt))) rfl rfl fun v46 I46 j46 q46=>?_;have hvc:=hvc.le j46;have hf:=hf.le j46;have hA34:=hA34.le j46;obtain⟨w46,rfl,hw46⟩:=q46;refine go 5 fun g13=>?_
    refine go 1 ?_;refine a1A _ he rfl rfl rfl rfl rfl (by simp[RdS.one hw46]) ?_;refine gC 10 (fun h50 p50=>?_) fun h50 p50=>?_
    ·refine go 6 ?_;refine a0p ?_;refine go 13 ?_;have hr:runL f c l day=([],((i:Nat):Int),(a0f c st U[i]).2):=by rw[←hgo,b1T hlt p50]
     exact q_i ⟨_,by rw[hr]<;>rfl,by rw[hr];exact RdS.nil'⟩
    ·have h0:(a0f c st U[i]).2=0:=by simpa using h50
     have hsm:=a5b (c:=c) hsf (hUs _ (List.getElem_mem hlt));have hc1:=a9v h0;have hc2:(a0f c st U[i]).1.length+b8j (a0f c st U[i]).1≤i+1:=by unfold a9u at *;omega
     have hfl:b8j (a0f c st U[i]).1≤(a0f c st U[i]).1.length:=List.length_filter_le _ _;have hfn:b8j (a0f c st U[i]).1≤12:=oM;refine go 7 ?_;refine a0c ?_;refine a1A _ he rfl rfl rfl rfl rfl (by simp[RdS.one hw46]) ?_;refine gC 9 (fun h57 p57=>?_) fun h57 p57=>?_
     ·refine go 9 ?_;refine a0b ?_;refine a0a ?_;refine a0b ?_;refine a0a ?_;exact a1k (i+1) ((a0f c st U[i]).1) (w46) (I46) ⟨oM,hJ.trans j46,hw46,hsm,oM,(a9E hlt h0 p57).symm.trans hgo⟩ oM rfl sb rfl
     ·have h4:U[i].op=4:=by simpa using h57
      refine go 3 ?_;refine b4y (Ix:=(fun v15 ns ys=>I46)) (Lx:=(fun v15 ns ys=>[(3,.pointer (some ⟨g3,0,none⟩)),(6,.pointer (some ⟨g6,0,none⟩)),(10,.pointer (some ⟨g10,0,none⟩)),(34,.slice A34 U.length c34),(35,.int .i64 ((U.length:Nat):Int)),(36,.int .i64 ((i:Nat):Int)),(12,.pointer (some ⟨g12,0,none⟩)),(15,v15)])) (Hx:=(fun v15 ns ys=>[.row v15 9 1 (ns++[U[i].part]).length ys,.blk g10 97 [w46],.blk g12 72 U[i].cells,.blk g6 97 [.slice none 0 0],.blk g3 29 [vc,ci f.op,ci f.n,sf]])) (p:=(fun v15 ns ys=>Flat I46 ys (ns++[U[i].part])∧∀n,n∈ns↔a8E (a0f c st U[i]).1 U[i].part n)) ?_ ?_
      ·refine go 1 ?_;refine dG 0 3 ?_;refine dG 4 2 ?_;refine dT2 3 6 ?_ ?_
       ·refine a3f (b6j _ _ (a0f c st U[i]).1 hw46 U[i].part hfn) rfl rfl fun v61 s61 q61=>?_;obtain⟨ns,rfl,hns,hnl⟩:=q61;refine dH 6 0 ?_;refine go 1 fun v64=>?_
        refine dH 7 0 ?_;refine a0b ?_;refine a0o he he rfl rfl rfl rfl rfl oM oM rfl fun v65=>?_;refine dG 8 1 ?_;refine go 2 ?_;refine a0b ?_;refine a0a ?_;refine a0c ?_;refine a0a ?_;exact a2S (_) (ns) (_) ⟨(a7J _ ns).flat.append (.one rfl),hns⟩ sb (by rw[List.length_append];rfl) rfl
       ·refine go 1 fun v64=>?_
        refine dH 3 0 ?_;refine a3f (b6j _ _ (a0f c st U[i]).1 hw46 U[i].part hfn) rfl rfl fun v61 s61 q61=>?_;obtain⟨ns,rfl,hns,hnl⟩:=q61;refine dH 7 0 ?_;refine a0b ?_;refine a0b ?_;refine a0o he he rfl rfl rfl rfl rfl oM oM rfl fun v65=>?_;refine dG 8 1 ?_;refine go 2 ?_;refine a0b ?_;refine a0a ?_;refine a0c ?_;refine a0a ?_;exact a2S (_) (ns) (_) ⟨(a7J _ ns).flat.append (.one rfl),hns⟩ sb (by rw[List.length_append];rfl) rfl
      ·intro v15 ns ys ⟨hF15,hns⟩;refine go 2 ?_;refine a0d (l:=(ns++[U[i].part])) rfl rfl (hF15) fun I66 j66 R66=>?_;have hvc:=hvc.le j66;have hf:=hf.le j66;have hA34:=hA34.le j66;have hw46:=hw46.le j66;have R66s:=R66;obtain⟨A15,c15,rfl,_,_,_⟩:=R66s;refine go 1 ?_;refine o_v rfl (a0J ([ci f.op,ci f.n,sf]) m3 he rfl rfl rfl) ?_;refine go 1 ?_;refine o_v rfl (a0J (U[i].use.cells) m1 he rfl rfl rfl) ?_;refine go 1 ?_;refine cV (c4q _ f _ hf U[i].use) ?_;refine go 2 fun g16=>?_
       refine go 9 ?_;refine a3f (b0L _ _ (a0f c st U[i]).1 hw46 oM) rfl rfl fun v73 s73 q73=>?_;obtain⟨xss,rfl,hx⟩:=q73;have hpos:0<(a0f c st U[i]).1.length:=by rw[b9z h0 h4];exact c9v h0 h4
       refine a7L hx.uk hx.len (fun h9 _=>absurd h9 oM) fun g73 cap73 rest73 e73 hR73 hc73 hm73=>?_;subst e73;refine go 2 ?_;refine a0c ?_;refine go 12 ?_;refine a5P ?_;refine a5P ?_;refine a5P ?_;refine a0p ?_;refine a5P ?_;refine a5P ?_
       refine a1i ((0:Nat)) (xss) (fun k xss=>I66)
        (fun k xss=>[(3,.pointer (some ⟨g3,0,none⟩)),(6,.pointer (some ⟨g6,0,none⟩)),(10,.pointer (some ⟨g10,0,none⟩)),(34,.slice A34 U.length c34),(35,.int .i64 ((U.length:Nat):Int)),(36,.int .i64 ((i:Nat):Int)),(12,.pointer (some ⟨g12,0,none⟩)),(15,.slice A15 (ns++[U[i].part]).length c15),(16,.pointer (some ⟨g16,0,none⟩)),(77,.int .i64 (((a0f c st U[i]).1.length:Nat):Int)),(78,.int .i64 ((k:Nat):Int))])
        (fun k xss=>[.blk g73 54 (xss++rest73).flatten,.blk g16 34 (a6G f U[i].use).cells,.blk g10 97 [.slice (some ⟨g73,0,none⟩) (a0f c st U[i]).1.length cap73],.blk g12 72 U[i].cells,.blk g6 97 [.slice none 0 0],.blk g3 29 [vc,ci f.op,ci f.n,sf]])
        (fun k xss=>k≤(a0f c st U[i]).1.length∧FlatC I66 xss (useUp (a0f c st U[i]).1 U[i] (a6G f U[i].use) k))
        (fun k xss=>(a0f c st U[i]).1.length-k) ⟨Nat.zero_le _,by rw[b9k];exact hx⟩ rfl sb rfl ?_
       intro k xss ⟨hk,hx⟩;refine gC 6 (fun h79 p79=>?_) fun h79 p79=>?_
       ·have hlk:k<(a0f c st U[i]).1.length:=oM;have hlx:k<xss.length:=by rw[hx.len,b4h];exact hlk
        obtain⟨q,hkc,hq⟩:=c3O hx (b7L hlk) rest73;have hU14:Uk 14 (xss++rest73):=hx.uk.append hR73;refine go 16 ?_;refine o_v rfl (a0i he rfl rfl rfl (k) oM oM) ?_;refine go 1 ?_;refine o_v rfl (c7d m0 hU14 he rfl (k) 0 oM hkc rfl) ?_;refine go 1 ?_;refine cV (a4r _ _ (ns++[U[i].part]) R66 _) ?_;refine gC 2 (fun h88 p88=>?_) fun h88 p88=>?_
        ·refine ds1 ?_;refine dG 0 3 ?_;refine a0F 3 rfl rfl (by kernel_rfl) rfl (.cons _ (.refl _)) rfl (a0i he rfl rfl rfl (k) oM oM) ?_;refine dG 4 2 ?_;refine a0F 6 rfl rfl (by kernel_rfl) rfl (.cons _ (.refl _)) rfl (a0J (U[i].use.cells) m2 he rfl rfl rfl) ?_;refine dH 7 1 ?_;refine a4v (c8B _ g73 54 k hU14 (a0f c st U[i]).1[k] q hkc U[i].use (a6G f U[i].use) _ oM) rfl rfl ?_;refine go 9 ?_;exact a0t (k+1) (_) ⟨oM,by rw[b1x hlk,b7N hlk hns p88];exact hx.set (x:=a5O (a6G f U[i].use) U[i].use (a0f c st U[i]).1[k]) ⟨q,rfl,hq⟩ k⟩ oM rfl sb (by rw[List.set_append_left _ _ hlx])
        ·refine go 8 ?_;exact a0t (k+1) (_) ⟨oM,by rw[c5T hlk hns p88];exact hx⟩ oM rfl sb rfl
       ·obtain rfl:k=(a0f c st U[i]).1.length:=oM;rw[c2S]at hx
        refine a2q hx.uk hR73 (by rw[hx.len,use_len]) hc73 hm73 ?_;refine a0d (l:=useL (a0f c st U[i]).1 U[i] (a6G f U[i].use)) rfl use_len.symm hx.flat fun I9 j9 R9=>?_;refine go 11 ?_;refine a0a ?_;refine a0b ?_;refine a0a ?_;exact a1k (i+1) (useL (a0f c st U[i]).1 U[i] (a6G f U[i].use)) (_) (I9) ⟨oM,hJ.trans (j46.trans (j66.trans j9)),R9,c2W hsm,by rw[b4B];omega,(b4T hlt h0 h4).symm.trans hgo⟩ oM rfl sb rfl
   ·refine go 9 ?_;refine a0b ?_;refine a1A _ he rfl rfl rfl rfl rfl (by simp[RdS.one hv10]) ?_;refine go 6 ?_;have hr:runL f c l day=(st,-1,0):=by rw[←hgo,c0Q oM]
    exact q_i ⟨_,by rw[hr]<;>rfl,by rw[hr];exact hv10⟩
end Go.Proofs.YtkndpfncklhhlaaGreat
set_option linter.all false
namespace Go.Sx
open Go
def sKm:ByteArray:=⟨#[107,109]⟩
def a1S:ByteArray:=⟨#[99,121,99,108,101,115]⟩
def a2c:ByteArray:=⟨#[100,97,109,97,103,101]⟩
def a6f:ByteArray:=⟨#[100,97,121,115]⟩
def b9t:ByteArray:=⟨#[97,103,101]⟩
def c3Q:List ByteArray:=[sKm,a1S,a2c,a6f,b9t]
def a5x (s:ByteArray):Bool:=decide (s∈c3Q)
def a5J (day a:Int):Ivl:=if a≥day then a3n else ⟨day-max a (day-(1000000000000:Int)),day-max a (day-(1000000000000:Int))⟩
def b4o (p:Part) (s:ByteArray) (day:Int):Ivl:=if s=sKm then p.life.km else if s=a1S then p.life.cycles else if s=a2c then p.life.damage else if s=a6f then a5J day p.since else a5J day p.made
def a5q (p:Part) (s:ByteArray) (day:Int):Ivl×Int:=if a5x s=false then (a3n,15) else if (decide (day<0)||decide (day>40000))=true then (a3n,13) else (b4o p s day,0)
section
variable {p:Part} {s:ByteArray} {day:Int}
theorem b7R (h:a5x s=false):a5q p s day=(a3n,15):=if_pos h
theorem b4k (h:a5x s=true) (hd:(decide (day<0)||decide (day>40000))=true):a5q p s day=(a3n,13):=by unfold a5q;rw[if_neg (by rw[h];decide),if_pos hd]
theorem a5r (h:a5x s=true) (hd:(decide (day<0)||decide (day>40000))=false):a5q p s day=(b4o p s day,0):=by unfold a5q;rw[if_neg (by rw[h];decide),if_neg (by rw[hd];decide)]
theorem b6d (v1 v2 v3 v4 v5:Value) (s:ByteArray):a4I [(sKm,v1),(a1S,v2),(a2c,v3),(a6f,v4),(b9t,v5)] s=if s=sKm then some v1 else if s=a1S then some v2 else if s=a2c then some v3 else if s=a6f then some v4 else if s=b9t then some v5 else none:=by
 simp only[a4I]
 simp only[eq_comm (b:=s)]
theorem b2V (s:ByteArray):(s=sKm∨s=a1S∨s=a2c∨s=a6f∨s=b9t)∨a5x s=false:=by
 cases h:a5x s with
 |false=>exact .inr rfl
 |true=>
  left
  have h1:s∈c3Q:=of_decide_eq_true h
  simpa[c3Q]using h1
theorem d1b:(sKm≠a1S∧sKm≠a2c∧sKm≠a6f∧sKm≠b9t)∧(a1S≠a2c∧a1S≠a6f∧a1S≠b9t)∧(a2c≠a6f∧a2c≠b9t)∧a6f≠b9t:=by decide +kernel
def c6K (s:ByteArray):Bool:=(((decide (s=sKm)||decide (s=a1S))||decide (s=a2c))||decide (s=a6f))||decide (s=b9t)
theorem a5U:c6K s=a5x s:=by
 rw[Bool.eq_iff_iff]
 simp only[c6K,a5x,c3Q,Bool.or_eq_true,decide_eq_true_eq,List.mem_cons,List.not_mem_nil,or_false]
 constructor
 ·rintro ((((h|h)|h)|h)|h)<;>simp[h]
 ·rintro (h|h|h|h|h)<;>simp[h]
theorem b0h (day a:Int) (n:Int) (h:(a<day-1000000000000∧n=1000000000000)∨(¬a<day-1000000000000∧a<day∧n=day-a)∨(¬a<day-1000000000000∧¬a<day∧n=0)):a5J day a=⟨n,n⟩:=by
 unfold a5J a3n
 split
 ·rcases h with ⟨h1,h2⟩|⟨h1,h2,h3⟩|⟨h1,h2,h3⟩
  ·omega
  ·omega
  ·rw[h3]
 ·rename_i hd
  rcases h with ⟨h1,h2⟩|⟨h1,h2,h3⟩|⟨h1,h2,h3⟩
  ·congr 1<;>omega
  ·congr 1<;>omega
  ·omega
end
section
variable {P:Program} {ρ:Option Nat} {n:Sz} {E:Ent} {I I':IMap} {L:LL} {H H0:List Res} {Q:Exit→Act→World→Prop} {ops:Array Oper} {K:Act→World→Prop}
variable {d ty:Nat} {pos:String} {af:Array Edge} {fo x y z:Operand} {as_:List Operand} {ats:Array TypeId} {f:FuncId} {args:List Value}
theorem a7A {κ:Type} [DecidableEq κ] {enc:κ→Value} {mt kt et r:Nat} {v:Value} {kvs:List (κ×Value)} (kvs':List (κ×Value)) (hK:KeyOK P kt enc) (ht:P.underlying mt=some (.map kt et)) (key:κ) (hx:ev L x=some (.map (some r))) (hy:ev L y=some (enc key)) (hv:ev L z=some v)
  (he:a5I kvs key v=kvs') (k:SX n E I L (.mp r (a2l enc kvs')::H) K):SX n E I L (.mp r (a2l enc kvs)::H) (one P ops Q ⟨none,.insert mt x y z,ty,pos,af,none⟩ K):=by
 intro a w st mm;have h1:=a4l (P:=P) (n:=n) (E:=E) (I:=I) (L:=L) (H:=H) (Q:=Q) (ops:=ops) (K:=K) (ty:=ty) (pos:=pos) (af:=af) kvs' hK ht key hx hy hv he k a w st mm;exact h1
end
end Go.Sx
namespace Go.Proofs.YtkndpfncklhhlaaGreat
open Go Go.Sx Tryz
set_option linter.all false
set_option maxRecDepth 20000
set_option maxHeartbeats 4000000
instance:Has (tyK prog 128) (false,1):=hk
instance:Has (prog.underlying 105) (.map 9 103):=hk
instance:Has (a2r prog 128) [.nilFunc]:=hk
instance:Has (zvK prog 103) (.nilFunc):=hk
theorem b3n (I:IMap) (day a:Int) (hd:0≤day∧day≤40000) :
    FnV prog 64 #[.int .i64 (day),.int .i64 (a)] I (.agg (a5J day a).cells.toArray):=by
 refine enter func64 call64 rfl ntmps64 rfl fun w0=>?_;refine go 4 fun g4=>?_
 refine gC 10 (fun h8 p8=>?_) fun h8 p8=>?_
 ·refine go 10 ?_;exact q_v (by unfold a5J;rw[if_pos p8];rfl)
 ·refine go 8 ?_;refine o_v rfl (OV.cast (u:=.int .i64 (max a (day-(1000000000000:Int)))) (a2a rfl rfl) (congrArg (Value.int .i64) oM)) ?_;refine go 15 ?_;exact q_v (by unfold a5J;rw[if_neg p8];rfl)
theorem d1a (I:IMap) (p:Part) (q:Value) (day:Int) (hd:0≤day∧day≤40000) :
    FnV prog 65 #[.agg (p.cells q).toArray,.int .i64 (day)] I (.agg p.life.km.cells.toArray):=by
 refine enter func65 call65 rfl ntmps65 rfl fun w0=>?_;refine go 4 fun g2=>?_
 refine go 2 fun g4=>?_
 refine go 6 ?_;refine o_v rfl (a0J (p.life.km.cells) m1 he rfl rfl rfl) ?_;refine go 6 ?_;exact q_v rfl
theorem b8b (I:IMap) (p:Part) (q:Value) (day:Int) (hd:0≤day∧day≤40000) :
    FnV prog 66 #[.agg (p.cells q).toArray,.int .i64 (day)] I (.agg p.life.cycles.cells.toArray):=by
 refine enter func66 call66 rfl ntmps66 rfl fun w0=>?_;refine go 4 fun g2=>?_
 refine go 2 fun g4=>?_
 refine go 6 ?_;refine o_v rfl (a0J (p.life.cycles.cells) m1 he rfl rfl rfl) ?_;refine go 6 ?_;exact q_v rfl
theorem b8c (I:IMap) (p:Part) (q:Value) (day:Int) (hd:0≤day∧day≤40000) :
    FnV prog 67 #[.agg (p.cells q).toArray,.int .i64 (day)] I (.agg p.life.damage.cells.toArray):=by
 refine enter func67 call67 rfl ntmps67 rfl fun w0=>?_;refine go 4 fun g2=>?_
 refine go 2 fun g4=>?_
 refine go 6 ?_;refine o_v rfl (a0J (p.life.damage.cells) m1 he rfl rfl rfl) ?_;refine go 6 ?_;exact q_v rfl
theorem b9Y (I:IMap) (p:Part) (q:Value) (day:Int) (hd:0≤day∧day≤40000) (g:Nat) (hg:ICells I g 0 [.func (.func 64) #[] #[]]) :
    FnV prog 68 #[.agg (p.cells q).toArray,.int .i64 (day),.pointer (some ⟨g,0,none⟩)] I (.agg (a5J day p.since).cells.toArray):=by
 refine enter func68 call68 rfl ntmps68 rfl fun w0=>?_;refine go 4 fun g3=>?_
 refine go 2 fun g5=>?_
 refine go 4 ?_;refine o_v rfl (a1X he rfl (hg 0 _ rfl)) ?_;refine go 4 ?_;refine cV (b3n _ day p.since hd) ?_;refine go 6 ?_;exact q_v rfl
theorem c3R (I:IMap) (p:Part) (q:Value) (day:Int) (hd:0≤day∧day≤40000) (g:Nat) (hg:ICells I g 0 [.func (.func 64) #[] #[]]) :
    FnV prog 69 #[.agg (p.cells q).toArray,.int .i64 (day),.pointer (some ⟨g,0,none⟩)] I (.agg (a5J day p.made).cells.toArray):=by
 refine enter func69 call69 rfl ntmps69 rfl fun w0=>?_;refine go 4 fun g3=>?_
 refine go 2 fun g5=>?_
 refine go 4 ?_;refine o_v rfl (a1X he rfl (hg 0 _ rfl)) ?_;refine go 4 ?_;refine cV (b3n _ day p.made hd) ?_;refine go 6 ?_;exact q_v rfl
def d0Z (g:Nat):List (ByteArray×Value):=[(sKm,.func (.func 65) #[] #[]),(a1S,.func (.func 66) #[] #[]),(a2c,.func (.func 67) #[] #[]),(a6f,.func (.func 68) #[] #[.pointer (some ⟨g,0,none⟩)]),(b9t,.func (.func 69) #[] #[.pointer (some ⟨g,0,none⟩)])]
theorem c1l (I:IMap) :
    FnH prog 37 #[] I [] (fun u J H2=>∃m g,u = .map (some m)∧H2=[.mp m (a2l Value.string (d0Z g))]∧ICells J g 0 [.func (.func 64) #[] #[]]):=by
 refine enter func37 call37 rfl ntmps37 rfl fun w0=>?_;refine go 9 fun g1=>?_
 refine go 7 ?_;refine a7z (Value.string) he rfl fun r2=>?_;refine go 1 ?_;refine a7A ([(sKm,.func (.func 65) #[] #[])]) (a0O he) he (sKm) rfl rfl rfl (rfl) ?_;refine go 1 ?_;refine a7A ([(sKm,.func (.func 65) #[] #[]),(a1S,.func (.func 66) #[] #[])]) (a0O he) he (a1S) rfl rfl rfl (rfl) ?_;refine go 1 ?_;refine a7A ([(sKm,.func (.func 65) #[] #[]),(a1S,.func (.func 66) #[] #[]),(a2c,.func (.func 67) #[] #[])]) (a0O he) he (a2c) rfl rfl rfl (rfl) ?_;refine go 2 ?_;refine a7A ([(sKm,.func (.func 65) #[] #[]),(a1S,.func (.func 66) #[] #[]),(a2c,.func (.func 67) #[] #[]),(a6f,.func (.func 68) #[] #[.pointer (some ⟨g1,0,none⟩)])]) (a0O he) he (a6f) rfl rfl rfl (rfl) ?_;refine go 2 ?_;refine a7A ([(sKm,.func (.func 65) #[] #[]),(a1S,.func (.func 66) #[] #[]),(a2c,.func (.func 67) #[] #[]),(a6f,.func (.func 68) #[] #[.pointer (some ⟨g1,0,none⟩)]),(b9t,.func (.func 69) #[] #[.pointer (some ⟨g1,0,none⟩)])]) (a0O he) he (b9t) rfl rfl rfl (rfl) ?_;refine go 6 ?_;refine a0b ?_;refine a1Z fun J9 j9 c9=>?_;exact a4N (fun _ m=>m) ⟨_,g1,rfl,rfl,c9⟩
theorem b6c (I:IMap) (g:Nat) (hg:ICells I g 0 [.func (.func 64) #[] #[]]) (s:ByteArray):∃(z:Value) (b:Bool),(a4I (d0Z g) s).getD .nilFunc=z∧(a4I (d0Z g) s).isSome=b∧b=a5x s∧(b=true→∃(k:FuncId) (cs:List Value),z = .func (.func k) #[] cs.toArray ∧
  ∀J,ILe I J→∀(p:Part) (q:Value) (day:Int),0≤day∧day≤40000→FnV prog k ([Value.agg (p.cells q).toArray,.int .i64 day]++cs).toArray J (.agg (b4o p s day).cells.toArray)):=by
 obtain⟨⟨n1,n2,n3,n4⟩,⟨n5,n6,n7⟩,⟨n8,n9⟩,n10⟩:=d1b;refine⟨_,_,rfl,rfl,?_,?_⟩
 ·rw[d0Z,b6d]
  rcases b2V s with h|h
  ·rcases h with rfl|rfl|rfl|rfl|rfl<;>simp[a5x,c3Q, *,Ne.symm,n1.symm,n2.symm,n3.symm,n4.symm,n5.symm,n6.symm,n7.symm,n8.symm,n9.symm,n10.symm]
  ·rw[h];have h2:s∉c3Q:=by simpa[a5x]using h
   simp only[c3Q,List.mem_cons,List.not_mem_nil,or_false,not_or]at h2
   simp[h2]
 ·intro hs;rw[d0Z,b6d]at hs ⊢
  rcases b2V s with h|h
  ·rcases h with rfl|rfl|rfl|rfl|rfl
   ·exact⟨65,[],by simp,fun J _ p q day hd=>by rw[b4o,if_pos rfl];exact d1a J p q day hd⟩
   ·exact⟨66,[],by simp[n1.symm],fun J _ p q day hd=>by rw[b4o,if_neg n1.symm,if_pos rfl];exact b8b J p q day hd⟩
   ·exact⟨67,[],by simp[n2.symm,n5.symm],fun J _ p q day hd=>by rw[b4o,if_neg n2.symm,if_neg n5.symm,if_pos rfl];exact b8c J p q day hd⟩
   ·exact⟨68,[.pointer (some ⟨g,0,none⟩)],by simp[n3.symm,n6.symm,n8.symm],fun J hJ p q day hd=>by rw[b4o,if_neg n3.symm,if_neg n6.symm,if_neg n8.symm,if_pos rfl];exact b9Y J p q day hd g (hg.le hJ)⟩
   ·exact⟨69,[.pointer (some ⟨g,0,none⟩)],by simp[n4.symm,n7.symm,n9.symm,n10.symm],fun J hJ p q day hd=>by rw[b4o,if_neg n4.symm,if_neg n7.symm,if_neg n9.symm,if_neg n10.symm];exact c3R J p q day hd g (hg.le hJ)⟩
  ·exfalso
   have h2:s∉c3Q:=by simpa[a5x]using h
   simp only[c3Q,List.mem_cons,List.not_mem_nil,or_false,not_or]at h2
   simp[h2]at hs
theorem c1n (I:IMap) (p:Part) (q:Value) (hq:q.oneCell'=true) (s:ByteArray) (day:Int) :
    FnV prog 20 #[.agg (p.cells q).toArray,.string s,.int .i64 (day)] I (.tuple #[.agg (a5q p s day).1.cells.toArray,.int .i64 ((a5q p s day).2)]):=by
 refine enter func20 call20 rfl ntmps20 rfl fun w0=>?_;refine go 4 fun g3=>?_
 refine go 2 fun g6=>?_
 refine go 6 ?_;refine b6M (c1l _) rfl rfl fun u11 I11 H11 j11 q11=>?_;obtain⟨m,g,rfl,rfl,hg⟩:=q11;refine b7F ?_;obtain⟨z,b,hz,hb,hbs,hzb⟩:=b6c _ g hg s;refine go 1 ?_;refine o_v rfl (a8v m0 (a0O he) he he (s) rfl rfl hz hb) ?_;refine gC 16 (fun h16 p16=>?_) fun h16 p16=>?_
 ·refine go 4 ?_;refine a0b ?_;refine go 8 ?_;exact b5v (by rw[b7R (by rw[←hbs];simpa using h16)]<;>rfl)
 ·have hb1:b=true:=by simpa using h16
  obtain⟨k,cs,rfl,hcall⟩:=hzb hb1;refine go 1 ?_;refine a1h (I':=I11) (L':=[(2,.int .i64 (day)),(3,.pointer (some ⟨g3,0,none⟩)),(6,.pointer (some ⟨g6,0,none⟩)),(8,.func (.func k) #[] cs.toArray),(20,.bool (decide (day<0)||decide (day>40000)))]) (H':=[.blk g3 54 (p.cells q),.blk g6 34 [.int .i64 (0),.int .i64 (0)]]) ?_ ?_
  ·refine gS 4 23 (fun h23 p23=>?_) fun h23 p23=>?_
   ·refine go 6 ?_;refine a0a ?_;refine a0b ?_;exact a0h ⟨rfl,rfl,rfl,rfl,(bB (by simp only[h16,h23,bS])),trivial⟩ rfl rfl
   ·refine go 6 ?_;refine a0a ?_;refine a0b ?_;exact a0h ⟨rfl,rfl,rfl,rfl,(bB (by simp only[h16,h23,bS])),trivial⟩ rfl rfl
  ·refine gC 0 (fun h20 p20=>?_) fun h20 p20=>?_
   ·refine go 4 ?_;refine a0b ?_;refine go 8 ?_;exact b5v (by rw[b4k (by rw[←hbs,hb1]) h20]<;>rfl)
   ·have hd:0≤day∧day≤40000:=by simp at h20;omega
    refine go 9 ?_;refine cV (hcall _ (ILe.refl _) p q day hd) ?_;refine go 1 ?_;refine a0b ?_;refine go 6 ?_;exact b5v (by rw[a5r (by rw[←hbs,hb1]) h20]<;>rfl)
theorem d1C (I:IMap) (s:ByteArray) :
    FnV prog 17 #[.string s] I (.bool (a5x s)):=by
 refine enter func17 call17 rfl ntmps17 rfl fun w0=>?_;refine go 8 ?_;refine b6M (c1l _) rfl rfl fun u6 I6 H6 j6 q6=>?_;obtain⟨m,g,rfl,rfl,hg⟩:=q6;refine b7F ?_;obtain⟨z,b,hz,hb,hbs,hzb⟩:=b6c _ g hg s;refine go 1 ?_;refine o_v rfl (a8v m0 (a0O he) he he (s) rfl rfl hz hb) ?_;refine go 15 ?_;exact b5v (congrArg Value.bool hbs)
end Go.Proofs.YtkndpfncklhhlaaGreat
set_option linter.all false
namespace Go.Sx
open Go
def a4A (e:Evt):Bool:=!(((((decide (((e.part.size:Nat):Int)>300)||decide (((e.kind.size:Nat):Int)>300))||decide (((e.into.size:Nat):Int)>300))||decide (((e.slot.size:Nat):Int)>300))||decide (((e.key.size:Nat):Int)>300))||decide (((e.value.size:Nat):Int)>300))
def b7U (c:List Kind) (f:Fm) (l:List Evt) (n:Int):Bool:=(decide (((l.length:Nat):Int)>n) || !c4d c) || !decide (nodesF f 80≤80)
def b8f (c:List Kind) (f:Fm) (l:List Evt) (n:Int):Bool:=!b7U c f l n&&a2m (fun _ e=>a4A e) l l.length
def c8i (st:List Part) (v:ByteArray):Bool:=(!decide (v=a1b)&&(a0C st v).isSome)&&st.all fun p=>decide (upP st p.name=a1b)||decide (upP st p.name=v)
def d4i (st:List Part) (e:Evt) (d:Ivl):List Part:=st.map fun p=>if p.name=e.part∨upP st p.name=e.part then a5O d e.use p else p
theorem c9X {st:List Part} {e:Evt} {d:Ivl} (h:c8i st e.part=true):useL st e d=d4i st e d:=by
 simp only[c8i,Bool.and_eq_true,Bool.not_eq_true',decide_eq_false_iff_not,List.all_eq_true,Bool.or_eq_true,decide_eq_true_eq]at h
 obtain⟨⟨hv,hs⟩,hall⟩:=h;unfold useL d4i;refine List.map_congr_left fun p hp=>?_
 have hi:(p.name=e.part∨a8E st e.part p.name)↔(p.name=e.part∨upP st p.name=e.part):=by
  constructor
  ·rintro (h|⟨_,k,hk⟩)
   ·exact .inl h
   ·rcases hall p hp with h0|h0
    ·cases k with
     |zero=>cases hk
     |succ k=>simp[a2Y,h0]at hk
    ·exact .inr h0
  ·rintro (h|h)
   ·exact .inl h
   ·by_cases hn:p.name=e.part
    ·exact .inl hn
    ·exact .inr ⟨⟨hs,a8e (by rw[h];exact hv),hn⟩,1,by unfold a2Y;rw[h];simp[hv]⟩
 by_cases hc:p.name=e.part∨upP st p.name=e.part
 ·rw[if_pos hc,if_pos (hi.2 hc)]
 ·rw[if_neg hc,if_neg (fun h=>hc (hi.1 h))]
def goC (f:Fm) (c:List Kind):List Part→Int→List Evt→Option c6s
 |s,_,[]=>some (s,-1,0)
 |s,i,e::r=>if (a0f c s e).2=0 then (if e.op=4 then (if c8i (a0f c s e).1 e.part=true then goC f c (d4i (a0f c s e).1 e (a6G f e.use)) (i+1) r else none) else goC f c (a0f c s e).1 (i+1) r) else some ([],i,(a0f c s e).2)
theorem c0P {f:Fm} {c:List Kind}:∀(l:List Evt) {s:List Part} {i:Int} {r:c6s},goC f c s i l=some r→runLGo f c s i l=r
 | [],s,i,r,h=>by simp only[goC,Option.some.injEq]at h;exact h
 |e::l,s,i,r,h=>by
  simp only[goC]at h
  simp only[runLGo,a4p]
  split at h
  ·rename_i h0
   rw[if_pos h0];unfold applyL
   split at h
   ·rename_i h4
    rw[if_pos ⟨h0,h4⟩]
    split at h
    ·rename_i hf
     rw[c9X hf];exact c0P l h
    ·cases h
   ·rename_i h4
    rw[if_neg (fun hc=>h4 hc.2)];exact c0P l h
  ·rename_i h0
   rw[if_neg h0];exact Option.some.inj h
def d4s (f:Fm) (c:List Kind) (l:List Evt) (day:Int):Option c6s:=if (!a1a c || !a1p f)=true then some ([],-1,1) else goC f c [] 0 (a0Q (l.filter fun e=>!decide (e.day>day)))
theorem a8c {f:Fm} {c:List Kind} {l:List Evt} {day:Int} {r:c6s} (h:d4s f c l day=some r):runL f c l day=r:=by
 unfold d4s at h
 unfold runL
 split at h
 ·rename_i h1;rw[if_pos h1];exact Option.some.inj h
 ·rename_i h1;rw[if_neg h1];exact c0P _ h
theorem c0y {l:List Part} {s:ByteArray} {i:Nat} (hi:i<l.length) (h:a0C (l.drop i) s=a0C l s) (hn:¬l[i].name=s):a0C (l.drop (i+1)) s=a0C l s:=by
 rw[←h,List.drop_eq_getElem_cons hi];unfold a0C;rw[List.find?_cons_of_neg (by simpa using hn)]
theorem c4k {l:List Part} {s:ByteArray} {i:Nat} (hi:i<l.length) (h:a0C (l.drop i) s=a0C l s) (hn:l[i].name=s):a0C l s=some l[i]:=by
 rw[←h,List.drop_eq_getElem_cons hi];unfold a0C;rw[List.find?_cons_of_pos (by simpa using hn)]
theorem c4j {l:List Part} {s:ByteArray} {i:Nat} (hi:¬i<l.length) (h:a0C (l.drop i) s=a0C l s):a0C l s=none:=by
 rw[←h,List.drop_eq_nil_of_le oM];rfl
end Go.Sx
namespace Go.Proofs.YtkndpfncklhhlaaGreat
open Go Go.Sx Tryz
set_option linter.all false
set_option maxRecDepth 20000
set_option maxHeartbeats 4000000
theorem b0c (I:IMap) (N:Nat) (ih:∀(f:Fm),cntN f≤N→∀vs,FmRd I vs f→∀m:Int,0≤m→m≤1000→FnV prog 70 #[.agg vs.toArray,.int .i64 (m)] I (.int .i64 (nodesF f m))) (f:Fm) (hN:cntN f≤N+1) (vs:List Value) (hr:FmRd I vs f) (m:Int) (h0:0≤m) (h1:m≤1000) :
    FnV prog 70 #[.agg vs.toArray,.int .i64 (m)] I (.int .i64 (nodesF f m)):=by
 obtain⟨s,rfl,hs⟩:=a2w hr;obtain⟨A,c0,rfl,hA,hc,hm⟩:=hs;refine enter func70 call70 rfl ntmps70 rfl fun w0=>?_;refine go 4 fun g2=>?_
 refine go 15 ?_
 refine a1i ((0:Nat)) ((1:Int)) (fun i n=>I)
  (fun i n=>[(1,.int .i64 (m)),(2,.pointer (some ⟨g2,0,none⟩)),(5,.int .i64 (n)),(6,.int .i64 ((i:Nat):Int))])
  (fun i n=>[.blk g2 27 [ci f.op,ci f.n,.slice A f.kids.length c0]])
  (fun i n=>i≤f.kids.length∧(1≤n∧n≤m+1)∧nodesL (f.kids.drop i) n m=nodesF f m)
  (fun i n=>f.kids.length-i) ⟨Nat.zero_le _,⟨oM,oM⟩,a9P⟩ rfl sb rfl ?_
 intro i n ⟨hi,hn,hq⟩;refine gS 9 12 (fun h12 p12=>?_) fun h12 p12=>?_
 ·have hlt:i<f.kids.length:=oM;refine gC 6 (fun h16 p16=>?_) fun h16 p16=>?_
  ·have hkn:=b2i f.kids[i] (m-n) oM;refine go 9 ?_;obtain⟨b23,o23,w23,e23,c23,r23⟩:=RdA.at_ hA (i:=i) oM;replace r23:=a2w r23;obtain⟨s23,rfl,hs23⟩:=r23;refine go 6 ?_;refine a0x (ih f.kids[i] (by have:=a1N (List.getElem_mem hlt);omega) _ (a1E hs23) _ oM oM) rfl rfl ?_;refine go 11 ?_;exact a0t (i+1) (_) ⟨oM,oM,b1e hlt hq oM⟩ oM rfl sb rfl
  ·refine go 13 ?_;exact q_v (congrArg (Value.int .i64) (b1f hlt hq oM))
 ·refine go 20 ?_;exact q_v (congrArg (Value.int .i64) (b3x oM hq))
theorem b1k (I:IMap) (f:Fm) (vs:List Value) (hr:FmRd I vs f) (m:Int) (h0:0≤m) (h1:m≤1000):FnV prog 70 #[.agg vs.toArray,.int .i64 (m)] I (.int .i64 (nodesF f m)):=by
 have key:∀(N:Nat),∀(f:Fm),cntN f≤N→∀vs,FmRd I vs f→∀m:Int,0≤m→m≤1000→FnV prog 70 #[.agg vs.toArray,.int .i64 (m)] I (.int .i64 (nodesF f m)):=by
  intro N
  induction N with
  |zero=>intro f hN;exact absurd hN (by cases f;simp[cntN])
  |succ N ih=>intro f hN vs hr m h0 h1;exact b0c I N ih f hN vs hr m h0 h1
 exact key (cntN f) f (Nat.le_refl _) vs hr m h0 h1
theorem c5o (I:IMap) (f:Fm) (vs:List Value) (hr:FmRd I vs f) :
    FnV prog 39 #[.agg vs.toArray] I (.bool (decide (nodesF f 80≤80))):=by
 have hl:=Enc.len (α:=Fm) hr;refine enter func39 call39 rfl ntmps39 rfl fun w0=>?_;refine go 4 fun g1=>?_
 refine go 5 ?_;refine o_v rfl (a4n m0 he rfl hl) ?_;refine go 1 ?_;refine cV (b1k _ f _ hr 80 oM oM) ?_;refine go 6 ?_;exact q_v rfl
theorem c5t (I:IMap) (vc:Value) (c:List Kind) (hvc:RdS I vc c) (f:Fm) (sf:Value) (hf:FmRd I [ci f.op,ci f.n,sf] f) (v:Value) (l:List Evt) (hv:RdS I v l) (n:Int) :
    FnV prog 24 #[.agg #[vc,ci f.op,ci f.n,sf],v,.int .i64 (n)] I (.bool (b8f c f l n)):=by
 have hv0:=hv;obtain⟨A,c0,rfl,hA,hc,hm⟩:=hv;refine enter func24 call24 rfl ntmps24 rfl fun w0=>?_;refine go 4 fun g3=>?_
 refine go 5 ?_;refine a1h (I':=I) (L':=[(1,.slice A l.length c0),(24,.bool (b7U c f l n))]) (H':=[]) ?_ ?_
 ·refine gS 6 13 (fun h13 p13=>?_) fun h13 p13=>?_
  ·refine go 13 ?_;refine a0a ?_;exact a0h ⟨rfl,(bB (by simp only[b7U,h13,bS])),trivial⟩ rfl rfl
  ·refine go 1 ?_;refine a0P (a0z rfl rfl h13 (a0k rfl (a0J ([vc]) m0 he rfl rfl rfl) ?_));refine go 1 ?_;refine a0z rfl rfl h13 (a0x (d2w _ vc c hvc) rfl rfl ?_);refine gS 3 19 (fun h19 p19=>?_) fun h19 p19=>?_
   ·refine go 7 ?_;refine a0a ?_;exact a0h ⟨rfl,(bB (by simp only[b7U,h13,h19,bS])),trivial⟩ rfl rfl
   ·refine go 1 ?_;refine a0P (a0z rfl rfl h19 (a0k rfl (a0J ([ci f.op,ci f.n,sf]) m0 he rfl rfl rfl) ?_));refine go 1 ?_;refine a0z rfl rfl h19 (a0x (c5o _ f _ hf) rfl rfl ?_);refine go 4 ?_;refine a0a ?_;exact a0h ⟨rfl,(bB (by simp only[b7U,h13,h19,bS])),trivial⟩ rfl rfl
 ·refine gC 0 (fun h24 p24=>?_) fun h24 p24=>?_
  ·refine go 8 ?_;exact q_v (congrArg Value.bool (by simp only[b8f,h24];rfl))
  ·refine go 9 ?_
   refine a0w (α:=Nat) 0 (fun i=>I)
    (fun i=>[(1,.slice A l.length c0),(7,.int .i64 ((i:Nat):Int))])
    (fun i=>[])
    (fun i=>i≤l.length∧a2m (fun _ e=>a4A e) l i=true)
    (fun i=>l.length-i) ⟨Nat.zero_le _,rfl⟩ rfl sb rfl ?_
   intro i ⟨hi,hn⟩;refine gC 9 (fun h28 p28=>?_) fun h28 p28=>?_
   ·have hlt:i<l.length:=oM;refine go 8 ?_;obtain⟨b33,o33,w33,e33,c33,r33⟩:=RdA.at_ hA (i:=i) oM;obtain rfl:=r33;refine go 4 fun g8=>?_
    refine go 5 ?_;refine a1h (I':=I) (L':=[(1,.slice A l.length c0),(7,.int .i64 ((i:Nat):Int)),(68,.bool (!a4A l[i]))]) (H':=[]) ?_ ?_
    ·refine gS 6 39 (fun h39 p39=>?_) fun h39 p39=>?_
     ·refine go 31 ?_;refine a0a ?_;exact a0h ⟨rfl,rfl,(bB (by simp only[a4A,Bool.not_not,h28,h39,bS])),trivial⟩ rfl rfl
     ·refine gS 6 45 (fun h45 p45=>?_) fun h45 p45=>?_
      ·refine go 25 ?_;refine a0a ?_;exact a0h ⟨rfl,rfl,(bB (by simp only[a4A,Bool.not_not,h28,h39,h45,bS])),trivial⟩ rfl rfl
      ·refine gS 6 51 (fun h51 p51=>?_) fun h51 p51=>?_
       ·refine go 19 ?_;refine a0a ?_;exact a0h ⟨rfl,rfl,(bB (by simp only[a4A,Bool.not_not,h28,h39,h45,h51,bS])),trivial⟩ rfl rfl
       ·refine gS 6 57 (fun h57 p57=>?_) fun h57 p57=>?_
        ·refine go 13 ?_;refine a0a ?_;exact a0h ⟨rfl,rfl,(bB (by simp only[a4A,Bool.not_not,h28,h39,h45,h51,h57,bS])),trivial⟩ rfl rfl
        ·refine gS 6 63 (fun h63 p63=>?_) fun h63 p63=>?_
         ·refine go 7 ?_;refine a0a ?_;exact a0h ⟨rfl,rfl,(bB (by simp only[a4A,Bool.not_not,h28,h39,h45,h51,h57,h63,bS])),trivial⟩ rfl rfl
         ·refine go 7 ?_;refine a0a ?_;exact a0h ⟨rfl,rfl,(bB (by simp only[a4A,Bool.not_not,h28,h39,h45,h51,h57,h63,bS])),trivial⟩ rfl rfl
    ·refine gC 0 (fun h68 p68=>?_) fun h68 p68=>?_
     ·refine go 12 ?_;exact q_v (congrArg Value.bool (by simp only[b8f,a0R (f:=fun _ e=>a4A e) hlt (by simpa using h68)];simp))
     ·refine go 9 ?_;exact a0s (i+1) ⟨oM,a0T (f:=fun _ e=>a4A e) hn hlt (by simpa using h68)⟩ oM rfl sb rfl
   ·refine go 12 ?_;have e:i=l.length:=oM;subst e;exact q_v (congrArg Value.bool (by simp only[b8f,h24,hn];rfl))
theorem d1n (I:IMap) (v:Value) (l:List Part) (hv:RdS I v l) (s:ByteArray) :
    FnE prog 48 #[.agg #[v],.string s] I (PartIs I (a0C l s)):=by
 have hv0:=hv;obtain⟨A,c0,rfl,hA,hc,hm⟩:=hv;refine enter func48 call48 rfl ntmps48 rfl fun w0=>?_;refine go 4 fun g2=>?_
 refine go 2 fun g4=>?_
 refine go 13 ?_;refine a0b ?_;refine a0a ?_
 refine a0w (α:=Nat) 0 (fun i=>I)
  (fun i=>[(1,.string s),(4,.pointer (some ⟨g4,0,none⟩)),(9,.slice A l.length c0),(10,.int .i64 (l.length:Int)),(11,.int .i64 ((i:Nat):Int))])
  (fun i=>[.blk g4 54 [.string ⟨#[]⟩,.string ⟨#[]⟩,.string ⟨#[]⟩,.string ⟨#[]⟩,.int .i64 0,.int .i64 0,.bool false,.slice none 0 0,.int .i64 0,.int .i64 0,.int .i64 0,.int .i64 0,.int .i64 0,.int .i64 0]])
  (fun i=>i≤l.length∧a0C (l.drop i) s=a0C l s)
  (fun i=>l.length-i) ⟨Nat.zero_le _,rfl⟩ rfl sb rfl ?_
 intro i ⟨hi,hn⟩;refine gC 6 (fun h12 p12=>?_) fun h12 p12=>?_
 ·have hlt:i<l.length:=oM;refine go 6 ?_;obtain⟨b13,o13,w13,e13,c13,r13⟩:=RdA.at_ hA (i:=i) hlt;obtain⟨q13,rfl,B13,d13,rfl,hB13,hd13,hm13⟩:=r13;refine go 4 fun g7=>?_
  refine gC 12 (fun h18 p18=>?_) fun h18 p18=>?_
  ·refine go 4 ?_;refine a0b ?_;refine go 11 ?_;exact q_e (PartIs.of (c4k hlt hn p18) ⟨_,rfl,B13,d13,rfl,hB13,hd13,hm13⟩)
  ·refine go 8 ?_;refine a0a ?_;exact a0s (i+1) ⟨oM,c0y hlt hn p18⟩ oM rfl sb rfl
 ·refine go 15 ?_;exact q_e (PartIs.none (c4j oM hn))
end Go.Proofs.YtkndpfncklhhlaaGreat
set_option linter.all false
namespace Go.Sx
open Go
def c3q (x y:Int):Int:=if x≤((1000000000000:Int)).tdiv y then x * y else (1000000000000:Int)
section
variable {a b:Int}
theorem d2m (h:0<b):0≤((1000000000000:Int)).tdiv b∧((1000000000000:Int)).tdiv b≤1000000000000:=by
 rw[Int.tdiv_eq_ediv_of_nonneg (by decide)];refine⟨Int.ediv_nonneg (by decide) oM,Int.ediv_le_self _ (by decide)⟩
theorem c6v (ha:0<a) (h:0<b) (hl:a≤((1000000000000:Int)).tdiv b):0≤a * b∧a * b≤1000000000000:=by
 rw[Int.tdiv_eq_ediv_of_nonneg (by decide)]at hl
 exact⟨Int.mul_nonneg oM oM,(Int.le_ediv_iff_mul_le h).1 hl⟩
theorem c7q (ha:0<a) (h:0<b):0≤c3q a b∧c3q a b≤1000000000000:=by
 unfold c3q
 split
 ·rename_i hl;exact c6v ha h hl
 ·omega
theorem b4f:b1v a b=if a=0∨b=0 then 0 else if (decide (a<0) != decide (b<0))=true then 0-c3q (max a (0-a)) (max b (0-b)) else c3q (max a (0-a)) (max b (0-b)):=rfl
theorem c9V (h:(decide (a=0)||decide (b=0))=true):b1v a b=0:=if_pos (by simpa using h)
theorem c5Q (h:(decide (a=0)||decide (b=0))=false):0<max a (0-a)∧0<max b (0-b):=by
 simp only[Bool.or_eq_false_iff,decide_eq_false_iff_not]at h;omega
theorem c9T (h:(decide (a=0)||decide (b=0))=false) (h2:(!(decide (a<0) == decide (b<0)))=true):0-c3q (max a (0-a)) (max b (0-b))=b1v a b:=by
 rw[b4f,if_neg (by simpa using h),if_pos (by simpa[bne]using h2)]
theorem c9U (h:(decide (a=0)||decide (b=0))=false) (h2:(!(decide (a<0) == decide (b<0)))=false):c3q (max a (0-a)) (max b (0-b))=b1v a b:=by
 rw[b4f,if_neg (by simpa using h),if_neg (by simpa[bne]using h2)]
theorem c6H (hb:¬b=0):a6H a b=(!decide (a.tmod b=0) && !(decide (a<0) == decide (b<0))):=by
 unfold a6H;have h1:=Int.mul_tdiv_add_tmod a b;rw[Int.mul_comm]at h1
 by_cases h:a.tmod b=0
 ·rw[decide_eq_true h,decide_eq_true (show a.tdiv b * b=a from oM)]
 ·rw[decide_eq_false h,decide_eq_false (show ¬a.tdiv b * b=a from oM)]
end
def b1Z (op:Int):Int:=if (decide (op≥1)&&decide (op≤4))=true then 0 else if (decide (op≥5)&&decide (op≤10))=true then 2 else if op=11 then 3 else -1
def c3r (f:Fm):Bool:=((!decide ((f.kids.length:Int)=b1Z f.op)||decide (f.n<0))||decide (f.n>9999999))||(!decide (f.op=1) && !decide (f.n=0))
section
variable {f:Fm} {i:Nat} {u:Use}
theorem c4E (op:Int):(1≤op∧op≤11∧b1Z op=a6D op)∨((op<1∨op>11)∧b1Z op = -1):=by
 unfold b1Z a6D
 simp only[Bool.and_eq_true,decide_eq_true_eq]
 by_cases h1:1≤op∧op≤4
 ·rw[if_pos oM,if_neg oM,if_neg oM];omega
 rw[if_neg oM]
 by_cases h2:5≤op∧op≤10
 ·rw[if_pos oM,if_neg oM,if_pos oM];omega
 rw[if_neg oM]
 by_cases h3:op=11
 ·rw[if_pos h3,if_pos h3];omega
 ·rw[if_neg h3];omega
theorem b9D:c3r f=(b0w f||a8x f):=by
 have hk:=c4E f.op;rw[Bool.eq_iff_iff]
 simp only[c3r,b0w,a8x]
 generalize b1Z f.op=x at hk
 generalize a6D f.op=y at hk
 simp only[Bool.or_eq_true,Bool.and_eq_true,Bool.not_eq_true',decide_eq_true_eq,decide_eq_false_iff_not]
 omega
theorem b9c (h:c3r f=true):rightF f=false:=by
 rw[b9D,Bool.or_eq_true]at h
 rcases h with h|h
 ·exact b7s h
 ·exact b7t h
theorem b9b (h:c3r f=false) (h3:a2m (fun _ k=>rightF k) f.kids f.kids.length=true):rightF f=true:=by
 rw[b9D,Bool.or_eq_false_iff]at h
 exact b3T h.1 h.2 h3
theorem c2Q {x:Ivl}:a6C x=((decide (x.low≥0)&&decide (x.low≤x.high))&&decide (x.high≤1000000)):=by
 rw[Bool.eq_iff_iff]
 simp only[a6C,Bool.not_eq_true',Bool.or_eq_false_iff,Bool.and_eq_true,decide_eq_true_eq,decide_eq_false_iff_not]
 omega
theorem c7X (h:(!a1p f || !a4E u)=true):a6G f u=a3n:=by
 cases hu:a4E u with
 |false=>exact c6E hu
 |true=>exact c0a hu (by rw[hu]at h;simpa using h)
theorem c9H (hR:rightF f=true) (h1:¬f.op=1) (h2:¬f.op=2) (h3:¬f.op=3) (h4:f.op=4):a0U u f=u.load:=by
 rw[a5C hR h1 oM];unfold a4U;rw[if_neg h2,if_neg h3]
theorem c9G (hR:rightF f=true) (h1:¬f.op=1) (h2:¬f.op=2) (h3:f.op=3):a0U u f=u.cycles:=by
 rw[a5C hR h1 oM];unfold a4U;rw[if_neg h2,if_pos h3]
theorem c9F (hR:rightF f=true) (h1:¬f.op=1) (h2:f.op=2):a0U u f=u.km:=by
 rw[a5C hR h1 oM];unfold a4U;rw[if_pos h2]
theorem d4F (hR:rightF f=true) (h1:¬f.op=1) (h2:¬f.op=2) (h3:¬f.op=3) (h4:¬f.op=4):¬f.op≤4:=by
 have:=(a5B hR).1;omega
theorem c2N (hR:rightF f=true) (h4:¬f.op≤4):2≤f.kids.length:=by
 by_cases h:f.op=11
 ·rw[b8w hR h];decide
 ·rw[c8z hR h h4];decide
theorem d3m (hR:rightF f=true) (h4:¬f.op≤4) (h5:¬f.op=5) (h6:¬f.op=6) (h7:¬f.op=7) (h8:¬f.op=8) (h9:¬f.op=9) (h10:¬f.op=10):f.op=11:=by
 have:=(a5B hR).1;omega
theorem a0Z (hR:rightF f=true) (h4:¬f.op≤4) {n:Int} (h:f.op=n) (hn:¬n=11):a0U u f=a5H n (a0U u (f.kids[0]'(by have:=c2N hR h4;omega))) (a0U u (f.kids[1]'(by have:=c2N hR h4;omega))):=by
 subst h;exact b7D (c8z hR hn h4) u
def qSt (a b:Ivl) (i:Nat):Ivl×Bool:=([max b.low 1,b.high,b.low,min b.high (-1)].take i).foldl (b7h a b) (a3n,decide (b.low≤0)&&decide (b.high≥0))
def dsR (b:Ivl):List Int:=[max b.low 1,b.high,b.low,min b.high (-1)]
theorem a7D {a b:Ivl} {d:Int} (hi:i<(dsR b).length) (hd:(dsR b)[i]=d):qSt a b (i+1)=b7h a b (qSt a b i) d:=by
 subst hd;unfold qSt;rw[show [max b.low 1,b.high,b.low,min b.high (-1)]=dsR b from rfl,←a0e hi,List.foldl_append];rfl
theorem c9d {a b:Ivl} (ha:a1D a=true) (hb:b.low≤b.high):(qSt a b 4).1=c0e a b:=by rw[←c5k ha hb];rfl
theorem b0a {a b:Ivl} {st:Ivl×Bool} {d:Int} (h:(decide (d<b.low)||decide (d>b.high)||decide (d=0))=true):b7h a b st d=st:=if_pos (by simpa[or_assoc]using h)
theorem c5j {a b:Ivl} {st:Ivl×Bool} {d:Int} (h:(decide (d<b.low)||decide (d>b.high)||decide (d=0))=false) (h2:st.2=true):b7h a b st d=(a2y (a6V a d) st.1,true):=by
 unfold b7h;rw[if_neg (by simpa[or_assoc,and_assoc]using h),if_pos h2]
theorem c9g {a b:Ivl} {st:Ivl×Bool} {d:Int} (h:(decide (d<b.low)||decide (d>b.high)||decide (d=0))=false) (h2:st.2=false):b7h a b st d=(a6V a d,true):=by
 unfold b7h;rw[if_neg (by simpa[or_assoc,and_assoc]using h),if_neg (by rw[h2];decide)]
end
end Go.Sx
