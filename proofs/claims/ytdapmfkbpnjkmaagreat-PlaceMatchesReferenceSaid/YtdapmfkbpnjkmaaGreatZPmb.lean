
import Derived.Test.YtdapmfkbpnjkmaaGreatZPma
import Derived.Test.YtdapmfkbpnjkmaaGreatChecked
set_option linter.all false
namespace Go.Sx
open Go
class Day (α:Type) where
 day:α→Int
 ch:α→List Value
 k:Nat
 len:∀x,(ch x).length=k
instance:Day Evt:=⟨Evt.day,Evt.cells,14,fun _=>rfl⟩
variable {α:Type} [Day α]
def a1H (l:List α):List (List Value):=l.map Day.ch
theorem b8W (l:List α):Uk (Day.k α) (a1H l):=fun c hc=>by obtain⟨e,_,rfl⟩:=List.mem_map.1 hc;exact Day.len e
theorem a0J (l:List α):(a1H l).length=l.length:=by simp[a1H]
theorem a1G {l:List α} {i:Nat} (h:i<l.length):(a1H l)[i]? = some (Day.ch l[i]):=by simp[a1H,h]
theorem a5W (l:List α) (i:Nat) (e:α):(a1H l).set i (Day.ch e)=a1H (l.set i e):=by simp[a1H,List.map_set]
theorem a0r (l:List Evt):Uk 14 (a1H l):=b8W l
theorem a6Q {I:IMap} (l:List Evt):FlatC I (a1H l) l:=by
 induction l with
 |nil=>exact .nil
 |cons e l ih=>exact .cons rfl ih
theorem b8U {l:List Evt} {rest:List (List Value)} {i:Nat} (h:i<l.length):(a1H l++rest)[i]? = some (Day.ch l[i]):=by
 rw[List.getElem?_append_left (by rw[a0J];exact h)];exact a1G h
theorem b8V (l:List Evt) (rest:List (List Value)) (i:Nat) (h:i<l.length) (e:Evt):(a1H l++rest).set i (Day.ch e)=a1H (l.set i e)++rest:=by
 rw[List.set_append_left _ _ (by rw[a0J];exact h),a5W]
theorem b8T {I:IMap} {xss:List (List Value)} {l:List Evt} (h:FlatC I xss l):xss=a1H l:=by
 induction h with
 |nil=>rfl
 |cons h1 _ ih=>rw[ih];simp only[a1H,List.map_cons];rw[show _=_ from h1];rfl
def swp (l:List α) (i j:Nat):List α:=match l[i]?,l[j]? with
 |some x,some y=>(l.set i y).set j x
 |_,_=>l
theorem b0W {l:List α} {i j:Nat} (hi:i<l.length) (hj:j<l.length):swp l i j=(l.set i l[j]).set j l[i]:=by simp[swp,hi,hj]
theorem b4W (l:List α) (i j:Nat):(swp l i j).length=l.length:=by unfold swp;split<;>simp
def a0I (l:List α) (k:Nat):Int:=(l[k]?.map Day.day).getD 0
theorem a1x {l:List α} {k:Nat} (h:k<l.length):a0I l k=Day.day l[k]:=by simp[a0I,h]
theorem a9Q {l:List α} {i j:Nat} (hi:i<l.length) (hj:j<l.length) (k:Nat):(swp l i j)[k]? = if k=j then l[i]? else if k=i then l[j]? else l[k]?:=by
 rw[b0W hi hj,List.getElem?_set,List.getElem?_set]
 by_cases h1:j=k
 ·subst h1;simp[hj,hi]
 ·have:¬k=j:=fun e=>h1 e.symm
  by_cases h2:i=k
  ·subst h2;simp[h1,this,hi,hj]
  ·have h3:¬k=i:=fun e=>h2 e.symm
   simp[h1,h2,this,h3]
theorem c1c {l:List α} {i j:Nat} (hi:i<l.length) (hj:j<l.length) (k:Nat):a0I (swp l i j) k=if k=j then a0I l i else if k=i then a0I l j else a0I l k:=by
 unfold a0I;rw[a9Q hi hj]
 split
 ·rfl
 ·split<;>rfl
def Stb (l m:List α):Prop:=l.length=m.length∧∀d:Int,m.filter (fun e=>decide (Day.day e=d))=l.filter (fun e=>decide (Day.day e=d))
theorem Stb.refl (l:List α):Stb l l:=⟨rfl,fun _=>rfl⟩
theorem Stb.trans {l m k:List α} (h:Stb l m) (h':Stb m k):Stb l k:=⟨h.1.trans h'.1,fun d=>(h'.2 d).trans (h.2 d)⟩
theorem b4j (a b:List α) (d:Int) (h:∀x∈a,∀y∈b,Day.day x≠Day.day y):(b++a).filter (fun e=>decide (Day.day e=d))=(a++b).filter (fun e=>decide (Day.day e=d)):=by
 rw[List.filter_append,List.filter_append]
 by_cases ha:a.filter (fun e=>decide (Day.day e=d))=[]
 ·rw[ha];simp
 ·have hb:b.filter (fun e=>decide (Day.day e=d))=[]:=by
   rw[List.filter_eq_nil_iff];intro y hy;obtain⟨x,hx⟩:=List.exists_mem_of_ne_nil _ ha;rw[List.mem_filter]at hx
   have:=h x hx.1 y hy
   simp at hx ⊢
   omega
  rw[hb];simp
theorem Stb.block {p a b s:List α} (h:∀x∈a,∀y∈b,Day.day x≠Day.day y):Stb (p++(a++(b++s))) (p++(b++(a++s))):=by
 refine⟨by simp;omega,fun d=>?_⟩
 have:=b4j a b d h
 rw[List.filter_append,List.filter_append]at this
 simp only[List.filter_append]
 congr 1
 rw[←List.append_assoc,this,List.append_assoc]
def a8S (l:List α) (a b:Nat):Nat→List α
 |0=>l
 |k+1=>swp (a8S l a b k) (a+k) (b+k)
theorem a4a (l:List α) (a b:Nat):∀k,(a8S l a b k).length=l.length
 |0=>rfl
 |k+1=>by rw[a8S,b4W,a4a l a b k]
theorem a4R {l:List α} {i j:Nat} (hi:i<l.length) (hj:j<l.length):((a1H l).set i (Day.ch l[j])).set j (Day.ch l[i])=a1H (swp l i j):=by
 rw[a5W,a5W,b0W hi hj]
theorem a4c {l:List α} {i j:Nat} (hi:i<l.length) (hj:j<l.length) (hij:i≠j):((a1H l).set j (Day.ch l[i])).set i (Day.ch l[j])=a1H (swp l i j):=by
 rw[a5W,a5W,b0W hi hj,List.set_comm _ _ hij.symm]
theorem c9x (m:List α) {j:Nat} (hj:j+1<m.length):m=m.take j++([m[j]]++([m[j+1]]++m.drop (j+2))):=by
 conv=>lhs;rw[←List.take_append_drop j m,List.drop_eq_getElem_cons (by omega),List.drop_eq_getElem_cons hj]
 rfl
theorem c7k (m:List α) {j:Nat} (hj:j+1<m.length):swp m (j+1) j=m.take j++([m[j+1]]++([m[j]]++m.drop (j+2))):=by
 rw[b0W hj (by omega)]
 apply List.ext_getElem?
 intro k;rw[List.getElem?_set,List.getElem?_set,List.getElem?_append]
 simp only[List.length_take,List.length_set]
 have hmin:min j m.length=j:=by omega
 rw[hmin]
 by_cases h1:k<j
 ·simp[h1,show ¬j=k by omega,show ¬j+1=k by omega,List.getElem?_take]
 ·rw[if_neg h1];obtain⟨q,rfl⟩:∃q,k=j+q:=⟨k-j,by omega⟩;rw[Nat.add_sub_cancel_left]
  match q with
  |0=>simp;omega
  |1=>simp[hj]
  |q+2=>
   simp only[show ¬j=j+(q+2) by omega,show ¬j+1=j+(q+2) by omega,if_false]
   simp[List.getElem?_drop]
   congr 1
   omega
theorem c7l {l m:List α} {j:Nat} (h:Stb l m) (hj:j+1<m.length) (hd:a0I m (j+1)<a0I m j):Stb l (swp m (j+1) j):=by
 refine h.trans ?_
 have e:=c9x m hj
 rw[c7k m hj]
 conv=>arg 1;rw[e]
 refine Stb.block fun x hx y hy=>?_
 rw[List.mem_singleton]at hx hy
 subst hx hy;rw[a1x hj,a1x (by omega)]at hd
 omega
theorem c3X {l m:List α} {j:Nat} (h:Stb l m) (h0:0<j) (hj:j<m.length) (hd:a0I m j<a0I m (j-1)):Stb l (swp m j (j-1)):=by
 obtain⟨q,rfl⟩:∃q,j=q+1:=⟨j-1,by omega⟩;exact c7l h hj hd
theorem a6N {a b:Int}:b4a a b<0↔a<b:=by
 unfold b4a
 split
 ·rename_i h;simp[h]
 ·rename_i h;split<;>simp[h]
structure Seg (l m:List α) (a b:Nat):Prop where
 stb:Stb l m
 out:∀k,k<a∨b≤k→m[k]? = l[k]?
 srt:∀p q,a≤p→p<q→q<b→a0I m p≤a0I m q
theorem Seg.one (l:List α) (a:Nat):Seg l l a (a+1):=⟨Stb.refl l,fun _ _=>rfl,fun p q h1 h2 h3=>by omega⟩
theorem Seg.none {l:List α} {a b:Nat} (h:b≤a+1):Seg l l a b:=⟨Stb.refl l,fun _ _=>rfl,fun p q h1 h2 h3=>by omega⟩
structure Ins (l m:List α) (a i j:Nat):Prop where
 stb:Stb l m
 out:∀k,k<a∨i+1≤k→m[k]? = l[k]?
 srt:∀p q,a≤p→p<q→q≤i→q≠j→a0I m p≤a0I m q
theorem Ins.start {l m:List α} {a i:Nat} (h:Seg l m a i):Ins l m a i i:=⟨h.stb,fun k hk=>h.out k (by omega),fun p q h1 h2 h3 h4=>h.srt p q h1 h2 (by omega)⟩
theorem Ins.step {l m:List α} {a i j:Nat} (h:Ins l m a i j) (h1:a<j) (h2:j≤i) (h3:i<m.length) (hd:a0I m j<a0I m (j-1)):Ins l (swp m j (j-1)) a i (j-1):=by
 refine⟨c3X h.stb (by omega) (by omega) hd,fun k hk=>?_,fun p q p1 p2 p3 p4=>?_⟩
 ·rw[a9Q (by omega) (by omega),if_neg (by omega),if_neg (by omega)];exact h.out k hk
 ·rw[c1c (by omega) (by omega),c1c (by omega) (by omega)];rw[if_neg p4]
  by_cases hq:q=j
  ·subst hq;rw[if_pos rfl]
   by_cases hp:p=q-1
   ·rw[if_pos hp];omega
   ·rw[if_neg hp,if_neg (by omega)];exact h.srt p (q-1) p1 (by omega) (by omega) (by omega)
  ·rw[if_neg hq]
   by_cases hp:p=j-1
   ·rw[if_pos hp];exact h.srt j q (by omega) (by omega) p3 hq
   ·rw[if_neg hp]
    by_cases hp2:p=j
    ·rw[if_pos hp2];exact h.srt (j-1) q (by omega) (by omega) p3 hq
    ·rw[if_neg hp2];exact h.srt p q p1 p2 p3 hq
theorem Ins.done {l m:List α} {a i j:Nat} (h:Ins l m a i j) (h1:a≤j) (h2:j≤i) (hd:j=a∨a0I m (j-1)≤a0I m j):Seg l m a (i+1):=by
 refine⟨h.stb,fun k hk=>h.out k hk,fun p q p1 p2 p3=>?_⟩
 by_cases hq:q=j
 ·subst hq
  rcases hd with hd|hd
  ·omega
  ·rcases Nat.lt_or_ge p (q-1) with hp|hp
   ·exact Int.le_trans (h.srt p (q-1) p1 hp (by omega) (by omega)) hd
   ·obtain rfl:p=q-1:=by omega
    exact hd
 ·exact h.srt p q p1 p2 (by omega) hq
theorem Seg.len {l m:List α} {a b:Nat} (h:Seg l m a b):m.length=l.length:=h.stb.1.symm
theorem Ins.len {l m:List α} {a i j:Nat} (h:Ins l m a i j):m.length=l.length:=h.stb.1.symm
def c3W (f:Nat→Option α) (a b n k:Nat):Option α:=if a≤k∧k<a+n then f (k-a+b) else if b≤k∧k<b+n then f (k-b+a) else f k
def a7T (f:Nat→Option α) (m i j k:Nat):Option α:=if m-i≤k∧k<m-i+j then f (k+i) else if m-i+j≤k∧k<m+j then f (k-j) else f k
theorem a5A {l:List α} {a b:Nat}:∀(n:Nat),a+n≤b→b+n≤l.length→∀k,(a8S l a b n)[k]? = c3W (l[·]?) a b n k
 |0,_,_,k=>by
  simp only[a8S,c3W]
  rw[if_neg (by omega),if_neg (by omega)]
 |n+1,h1,h2,k=>by
  have hl:=a4a l a b n
  rw[a8S,a9Q (by omega) (by omega)]
  have ih:=a5A n (l:=l) (a:=a) (b:=b) (by omega) (by omega)
  rw[ih,ih,ih]
  simp only[c3W]
  repeat' split
  all_goals first
   |(exfalso;omega)
   |rfl
   |(congr 1;omega)
theorem c4T {f g:Nat→Option α} {m i j:Nat} (hm:i≤m) (h:j<i) (hg:∀k,g k=c3W f (m-i) m j k) (k:Nat):a7T g m (i-j) j k=a7T f m i j k:=by
 simp only[a7T,hg,c3W]
 repeat' split
 all_goals first
  |(exfalso;omega)
  |rfl
  |(congr 1;omega)
theorem c4U {f g:Nat→Option α} {m i j:Nat} (hm:i≤m) (h:i<j) (hg:∀k,g k=c3W f (m-i) (m+j-i) i k) (k:Nat):a7T g m i (j-i) k=a7T f m i j k:=by
 simp only[a7T,hg,c3W]
 repeat' split
 all_goals first
  |(exfalso;omega)
  |rfl
  |(congr 1;omega)
theorem c4S {f g:Nat→Option α} {m i:Nat} (hm:i≤m) (hg:∀k,g k=c3W f (m-i) m i k) (k:Nat):g k=a7T f m i i k:=by
 simp only[a7T,hg,c3W]
 repeat' split
 all_goals first
  |(exfalso;omega)
  |rfl
  |(congr 1;omega)
end Go.Sx
set_option linter.all false
namespace Go.Sx
open Go
variable {α:Type} [Day α]
def pc (l:List α) (a b:Nat):List α:=(l.drop a).take (b-a)
theorem b6b {l:List α} {a b:Nat} (k:Nat):(pc l a b)[k]? = if k<b-a then l[a+k]? else none:=by
 rw[pc,List.getElem?_take,List.getElem?_drop]
theorem c4Q {l:List α} {a b:Nat} (h:b≤l.length):(pc l a b).length=b-a:=by rw[pc,List.length_take,List.length_drop];omega
theorem c0g {l:List α} {a b:Nat} {x:α} (hx:x∈pc l a b):∃p,a≤p∧p<b∧l[p]? = some x:=by
 obtain⟨k,hk⟩:=List.getElem?_of_mem hx;rw[b6b]at hk
 split at hk
 ·exact⟨a+k,by omega,by omega,hk⟩
 ·cases hk
theorem c8I {l:List α} {a b p:Nat} {x:α} (h1:a≤p) (h2:p<b) (hx:l[p]? = some x):x∈pc l a b:=by
 refine List.mem_of_getElem? (i:=p-a) ?_;rw[b6b,if_pos (by omega),show a+(p-a)=p from by omega];exact hx
theorem c9R {l:List α} {a b:Nat} (h1:a≤b) (h2:b≤l.length):l=l.take a++(pc l a b++l.drop b):=by
 have e:pc l a b++l.drop b=l.drop a:=by
  have:=List.take_append_drop (b-a) (l.drop a)
  rw[List.drop_drop,show a+(b-a)=b from by omega]at this
  exact this
 rw[e,List.take_append_drop]
theorem b5o {l:List α} {p:Nat} {x:α} (h:l[p]? = some x):a0I l p=Day.day x:=by simp[a0I,h]
theorem c0P {l m:List α} {a b:Nat} (hs:Stb l m) (ho:∀k,k<a∨b≤k→m[k]? = l[k]?) (h1:a≤b) (h2:b≤l.length) {p:Nat} (hp1:a≤p) (hp2:p<b):∃q,a≤q∧q<b∧a0I m p=a0I l q:=by
 have hml:m.length=l.length:=hs.1.symm
 have et:m.take a=l.take a:=by
  apply List.ext_getElem?
  intro k;rw[List.getElem?_take,List.getElem?_take]
  split
  ·exact ho k (.inl (by omega))
  ·rfl
 have ed:m.drop b=l.drop b:=by
  apply List.ext_getElem?
  intro k;rw[List.getElem?_drop,List.getElem?_drop];exact ho _ (.inr (by omega))
 have hx:m[p]? = some m[p]:=List.getElem?_eq_getElem (by omega)
 obtain⟨y,hy⟩:∃y,y=m[p]:=⟨_,rfl⟩;rw[←hy]at hx
 have key:∀d:Int,(pc m a b).filter (fun e=>decide (Day.day e=d))=(pc l a b).filter (fun e=>decide (Day.day e=d)):=by
  intro d
  have hf:=hs.2 d
  rw[show l.filter (fun e=>decide (Day.day e=d))=(l.take a++(pc l a b++l.drop b)).filter (fun e=>decide (Day.day e=d)) from congrArg _ (c9R h1 h2),
   show m.filter (fun e=>decide (Day.day e=d))=(m.take a++(pc m a b++m.drop b)).filter (fun e=>decide (Day.day e=d)) from congrArg _ (c9R h1 (by omega)),et,ed]at hf
  simp only[List.filter_append]at hf
  exact List.append_cancel_right (List.append_cancel_left hf)
 have hmem:y∈(pc m a b).filter (fun e=>decide (Day.day e=Day.day y)):=List.mem_filter.2 ⟨c8I hp1 hp2 hx,by simp⟩
 rw[key]at hmem
 obtain⟨hm1,hm2⟩:=List.mem_filter.1 hmem;obtain⟨q,q1,q2,q3⟩:=c0g hm1;exact⟨q,q1,q2,by rw[b5o hx,b5o q3]⟩
theorem c3A {l k:List α} {a m b:Nat} (h1:a≤m) (h2:m≤b) (h3:b≤l.length) (hk:k.length=l.length) (hr:∀q,k[q]? = a7T (l[·]?) m (m-a) (b-m) q):k=l.take a++(pc l m b++(pc l a m++l.drop b)):=by
 apply List.ext_getElem?
 intro q;rw[hr,a7T]
 have l1:(l.take a).length=a:=by rw[List.length_take];omega
 have l2:=c4Q (l:=l) (a:=m) (b:=b) h3
 have l3:=c4Q (l:=l) (a:=a) (b:=m) (by omega)
 rw[List.getElem?_append,l1,List.getElem?_append,l2,List.getElem?_append,l3,List.getElem?_take,b6b,b6b,List.getElem?_drop]
 repeat' split
 all_goals first
  |(exfalso;omega)
  |rfl
  |(congr 1;omega)
theorem c6V {l k:List α} {a m b:Nat} (h1:a≤m) (h2:m≤b) (h3:b≤l.length) (hk:k.length=l.length) (hr:∀q,k[q]? = a7T (l[·]?) m (m-a) (b-m) q) (hd:∀p q,a≤p→p<m→m≤q→q<b→a0I l q<a0I l p):Stb l k:=by
 have e:=c3A h1 h2 h3 hk hr
 have e2:l=l.take a++(pc l a m++(pc l m b++l.drop b)):=by
  conv=>lhs;rw[c9R (l:=l) (a:=a) (b:=m) h1 (by omega)]
  congr 2
  have:=c9R (l:=l.drop m) (a:=0) (b:=b-m) (by omega) (by rw[List.length_drop];omega)
  simp only[List.take_zero,List.nil_append,List.drop_drop,show m+(b-m)=b from by omega]at this
  exact this
 rw[e]
 conv=>arg 1;rw[e2]
 refine Stb.block fun x hx y hy=>?_
 obtain⟨p,p1,p2,p3⟩:=c0g hx;obtain⟨q,q1,q2,q3⟩:=c0g hy
 have:=hd p q p1 p2 q1 q2
 rw[b5o p3,b5o q3]at this
 omega
theorem c6U {l k:List α} {m i j:Nat} (hr:∀q,k[q]? = a7T (l[·]?) m i j q) (q:Nat):a0I k q=if m-i≤q∧q<m-i+j then a0I l (q+i) else if m-i+j≤q∧q<m+j then a0I l (q-j) else a0I l q:=by
 unfold a0I;rw[hr,a7T]
 repeat' split
 all_goals rfl
theorem c3F {l m:List α} {a c b:Nat} (hs:Stb l m) (ho:∀k,k<a∨b≤k→m[k]? = l[k]?) (h1:∀p q,a≤p→p<q→q<c→a0I m p≤a0I m q) (h2:∀p q,c≤p→p<q→q<b→a0I m p≤a0I m q) (h3:∀p q,a≤p→p<c→c≤q→q<b→a0I m p≤a0I m q):Seg l m a b:=
 ⟨hs,ho,fun p q p1 p2 p3=>by
  rcases Nat.lt_or_ge q c with hq|hq
  ·exact h1 p q p1 p2 hq
  ·rcases Nat.lt_or_ge p c with hp|hp
   ·exact h3 p q p1 hp hq p3
   ·exact h2 p q hp p2 p3⟩
def SrtD (l:List α) (a b:Nat):Prop:=∀p q,a≤p→p<q→q<b→a0I l p≤a0I l q
theorem SrtD.le {l:List α} {a b:Nat} (h:SrtD l a b) {p q:Nat} (h1:a≤p) (h2:p≤q) (h3:q<b):a0I l p≤a0I l q:=by
 rcases Nat.lt_or_ge p q with hp|hp
 ·exact h p q h1 hp h3
 ·obtain rfl:p=q:=by omega
  exact Int.le_refl _
theorem SrtD.sub {l:List α} {a b a' b':Nat} (h:SrtD l a b) (h1:a≤a') (h2:b'≤b):SrtD l a' b':=fun p q p1 p2 p3=>h p q (by omega) p2 (by omega)
theorem SrtD.none {l:List α} {a b:Nat} (h:b≤a+1):SrtD l a b:=fun p q h1 h2 h3=>by omega
theorem Seg.toD {l m:List α} {a b:Nat} (h:Seg l m a b):SrtD m a b:=h.srt
structure Rot (l k:List α) (a s m e b:Nat):Prop where
 stb:Stb l k
 out:∀q,q<s∨e≤q→k[q]? = l[q]?
 day:∀q,a0I k q=if s≤q∧q<s+(e-m) then a0I l (q+(m-s)) else if s+(e-m)≤q∧q<e then a0I l (q-(e-m)) else a0I l q
theorem Rot.of {l k:List α} {a s m e b:Nat} (h1:s≤m) (h2:m≤e) (h3:e≤l.length) (hk:k.length=l.length) (hr:∀q,k[q]? = a7T (l[·]?) m (m-s) (e-m) q) (hd:∀p q,s≤p→p<m→m≤q→q<e→a0I l q<a0I l p):Rot l k a s m e b:=by
 refine⟨c6V h1 h2 h3 hk hr hd,fun q hq=>?_,fun q=>?_⟩
 ·rw[hr,a7T,if_neg (by omega),if_neg (by omega)]
 ·rw[c6U hr,show m-(m-s)=s from by omega,show m+(e-m)=e from by omega]
theorem Rot.id {l:List α} {a s m e b:Nat} (h:s=m∨e=m) (h1:s≤m) (h2:m≤e):Rot l l a s m e b:=by
 refine⟨Stb.refl l,fun _ _=>rfl,fun q=>?_⟩
 rcases h with rfl|rfl
 ·split
  ·congr 1;omega
  ·split
   ·exfalso;omega
   ·rfl
 ·split
  ·exfalso;omega
  ·split
   ·congr 1;omega
   ·rfl
theorem Rot.len {l k:List α} {a s m e b:Nat} (h:Rot l k a s m e b):k.length=l.length:=h.stb.1.symm
theorem Rot.p1 {l k:List α} {a s m e b:Nat} (h:Rot l k a s m e b) (h1:SrtD l a m) (g1:s≤m):SrtD k a s:=fun p q p1 p2 p3=>by
 rw[h.day,h.day,if_neg (by omega),if_neg (by omega),if_neg (by omega),if_neg (by omega)];exact h1 p q p1 p2 (by omega)
theorem Rot.p2 {l k:List α} {a s m e b:Nat} (h:Rot l k a s m e b) (h2:SrtD l m b) (g1:s≤m) (g2:m≤e) (g3:e≤b):SrtD k s (s+(e-m)):=fun p q p1 p2 p3=>by
 rw[h.day,h.day,if_pos (by omega),if_pos (by omega)];exact h2 _ _ (by omega) (by omega) (by omega)
theorem Rot.p3 {l k:List α} {a s m e b:Nat} (h:Rot l k a s m e b) (h1:SrtD l a m) (g0:a≤s) (g1:s≤m) (g2:m≤e):SrtD k (s+(e-m)) e:=fun p q p1 p2 p3=>by
 rw[h.day,h.day,if_neg (by omega),if_pos (by omega),if_neg (by omega),if_pos (by omega)];exact h1 _ _ (by omega) (by omega) (by omega)
theorem Rot.p4 {l k:List α} {a s m e b:Nat} (h:Rot l k a s m e b) (h2:SrtD l m b) (g1:s≤m) (g2:m≤e):SrtD k e b:=fun p q p1 p2 p3=>by
 rw[h.day,h.day,if_neg (by omega),if_neg (by omega),if_neg (by omega),if_neg (by omega)];exact h2 p q (by omega) p2 p3
theorem Rot.cross {l k:List α} {a s m e b:Nat} (h:Rot l k a s m e b) (h1:SrtD l a m) (h2:SrtD l m b) (g0:a≤s) (g1:s≤m) (g2:m≤e) (g3:e≤b)
  (hx:∀p q,s≤p→p<m→m≤q→q<e→a0I l q<a0I l p) (hy:∀p q,a≤p→p<s→e≤q→q<b→a0I l p≤a0I l q) (p q:Nat) (p1:a≤p) (p2:p<s+(e-m)) (q1:s+(e-m)≤q) (q2:q<b):a0I k p≤a0I k q:=by
 rw[h.day p,h.day q]
 by_cases hp:s≤p
 ·rw[if_pos ⟨hp,p2⟩]
  by_cases hq:q<e
  ·rw[if_neg (by omega),if_pos ⟨q1,hq⟩];exact Int.le_of_lt (hx _ _ (by omega) (by omega) (by omega) (by omega))
  ·rw[if_neg (by omega),if_neg (by omega)];exact h2.le (by omega) (by omega) q2
 ·rw[if_neg (by omega),if_neg (by omega)]
  by_cases hq:q<e
  ·rw[if_neg (by omega),if_pos ⟨q1,hq⟩];exact h1.le p1 (by omega) (by omega)
  ·rw[if_neg (by omega),if_neg (by omega)];exact hy p q p1 (by omega) (by omega) q2
theorem Rot.done {l k k1 k2:List α} {a s m e b c:Nat} (h:Rot l k a s m e b) (h1:SrtD l a m) (h2:SrtD l m b) (g0:a≤s) (g1:s≤m) (g2:m≤e) (g3:e≤b) (g4:b≤l.length) (hc:s+(e-m)=c)
  (hx:∀p q,s≤p→p<m→m≤q→q<e→a0I l q<a0I l p) (hy:∀p q,a≤p→p<s→e≤q→q<b→a0I l p≤a0I l q) (s1:Seg k k1 a c) (s2:Seg k1 k2 c b):Seg l k2 a b:=by
 subst hc
 have hl:=h.len
 have hl1:=s1.len
 have d1:∀p,p<s+(e-m)→k2[p]? = k1[p]?:=fun p hp=>s2.out p (.inl hp)
 have d2:∀p,s+(e-m)≤p→k1[p]? = k[p]?:=fun p hp=>s1.out p (.inr hp)
 have e1:∀p,p<s+(e-m)→a0I k2 p=a0I k1 p:=fun p hp=>by unfold a0I;rw[d1 p hp]
 refine c3F (c:=s+(e-m)) (h.stb.trans (s1.stb.trans s2.stb)) (fun q hq=>?_) (fun p q p1 p2 p3=>?_) (fun p q p1 p2 p3=>s2.srt p q p1 p2 p3) (fun p q p1 p2 p3 p4=>?_)
 ·rw[s2.out q (by omega),s1.out q (by omega),h.out q (by omega)]
 ·rw[e1 p (by omega),e1 q p3];exact s1.srt p q p1 p2 p3
 ·rw[e1 p p2];obtain⟨p',a1,a2,a3⟩:=c0P s1.stb s1.out (by omega) (by omega) p1 p2;obtain⟨q',b1,b2,b3⟩:=c0P s2.stb s2.out (by omega) (by omega) p3 p4
  have:a0I k1 q'=a0I k q':=by unfold a0I;rw[d2 q' b1]
  rw[a3,b3,this];exact h.cross h1 h2 g0 g1 g2 g3 hx hy p' q' a1 a2 b1 b2
def bub (l:List α) (a:Nat):Nat→List α
 |0=>l
 |k+1=>swp (bub l a k) (a+k) (a+k+1)
theorem a9a (l:List α) (a:Nat):∀k,(bub l a k).length=l.length
 |0=>rfl
 |k+1=>by rw[bub,b4W,a9a l a k]
theorem b8w {l:List α} {a:Nat}:∀(n:Nat),a+n<l.length→∀k,(bub l a n)[k]? = a7T (l[·]?) (a+1) 1 n k
  | 0, _, k => by simp only [bub, a7T]; rw [if_neg (by omega)]; split; · congr 1
                  · rfl
  |n+1,h,k=>by
    have hl:=a9a l a n
    rw[bub,a9Q (by omega) (by omega)]
    have ih:=b8w n (l:=l) (a:=a) (by omega)
    rw[ih,ih,ih]
    simp only[a7T]
    repeat' split
    all_goals first
      |(exfalso;omega)
      |rfl
      |(congr 1;omega)
def bud (l:List α) (m:Nat):Nat→List α
 |0=>l
 |k+1=>swp (bud l m k) (m-k) (m-k-1)
theorem a9b (l:List α) (m:Nat):∀k,(bud l m k).length=l.length
 |0=>rfl
 |k+1=>by rw[bud,b4W,a9b l m k]
theorem b8x {l:List α} {m:Nat} (hm:m<l.length):∀(n:Nat),n≤m→∀k,(bud l m n)[k]? = a7T (l[·]?) m n 1 k
  | 0, _, k => by simp only [bud, a7T]; split; · congr 1
                  · split
                    · exfalso;omega
                    · rfl
  |n+1,h,k=>by
    have hl:=a9b l m n
    rw[bud,a9Q (by omega) (by omega)]
    have ih:=b8x hm n (by omega)
    rw[ih,ih,ih]
    simp only[a7T]
    repeat' split
    all_goals first
      |(exfalso;omega)
      |rfl
      |(congr 1;omega)
theorem b5P {l:List α} {a b i:Nat} (hs:SrtD l (a+1) b) (h1:a+1≤i) (h2:i≤b) (h3:b≤l.length) (hlo:∀q,a+1≤q→q<i→a0I l q<a0I l a) (hhi:∀q,i≤q→q<b→a0I l a≤a0I l q):Seg l (bub l a (i-1-a)) a b:=by
  have hR:Rot l (bub l a (i-1-a)) a a (a+1) i b:=Rot.of (by omega) h1 (by omega) (a9a _ _ _) (fun q=>by rw[b8w _ (by omega)];congr 1<;>omega)
    (fun p q p1 p2 p3 p4 => by obtain rfl : p = a := by omega
                               exact hlo q p3 p4)
  refine⟨hR.stb,fun k hk=>hR.out k (by omega),fun p q p1 p2 p3=>?_⟩;rw[hR.day p,hR.day q]
  by_cases hp:p<i-1
  · rw[if_pos (by omega)]
    by_cases hq:q<i-1
    · rw[if_pos (by omega)];exact hs _ _ (by omega) (by omega) (by omega)
    · by_cases hq2:q=i-1
      · rw[if_neg (by omega),if_pos (by omega),show q-(i-(a+1))=a from by omega];exact Int.le_of_lt (hlo _ (by omega) (by omega))
      · rw[if_neg (by omega),if_neg (by omega)];exact hs _ _ (by omega) (by omega) (by omega)
  · by_cases hp2:p=i-1
    · rw[if_neg (by omega),if_pos (by omega),if_neg (by omega),if_neg (by omega),show p-(i-(a+1))=a from by omega];exact hhi _ (by omega) p3
    · rw[if_neg (by omega),if_neg (by omega),if_neg (by omega),if_neg (by omega)];exact hs _ _ (by omega) (by omega) (by omega)
theorem b0E {l:List α} {a m i:Nat} (hs:SrtD l a m) (h1:a≤i) (h2:i≤m) (h3:m<l.length) (hlo:∀q,a≤q→q<i→a0I l q≤a0I l m) (hhi:∀q,i≤q→q<m→a0I l m<a0I l q):Seg l (bud l m (m-i)) a (m+1):=by
  have hR:Rot l (bud l m (m-i)) a i m (m+1) (m+1):=Rot.of h2 (by omega) (by omega) (a9b _ _ _) (fun q=>by rw[b8x h3 _ (by omega)];congr 1;omega)
    (fun p q p1 p2 p3 p4 => by obtain rfl : q = m := by omega
                               exact hhi p p1 p2)
  refine⟨hR.stb,fun k hk=>hR.out k (by omega),fun p q p1 p2 p3=>?_⟩;rw[hR.day p,hR.day q]
  by_cases hp:p<i
  · rw[if_neg (by omega),if_neg (by omega)]
    by_cases hq:q<i
    · rw[if_neg (by omega),if_neg (by omega)];exact hs _ _ (by omega) (by omega) (by omega)
    · by_cases hq2:q=i
      · rw[if_pos (by omega),show q+(m-i)=m from by omega];exact hlo _ (by omega) (by omega)
      · rw[if_neg (by omega),if_pos (by omega)];exact hs _ _ (by omega) (by omega) (by omega)
  · by_cases hp2:p=i
    · rw[if_pos (by omega),if_neg (by omega),if_pos (by omega),show p+(m-i)=m from by omega];exact Int.le_of_lt (hhi _ (by omega) (by omega))
    · rw[if_neg (by omega),if_pos (by omega),if_neg (by omega),if_pos (by omega)];exact hs _ _ (by omega) (by omega) (by omega)
theorem Seg.refl' {k:List α} {a c:Nat} (h:SrtD k a c):Seg k k a c:=⟨Stb.refl k,fun _ _=>rfl,h⟩
theorem Rot.left {l k:List α} {a s m e b c:Nat} (h:Rot l k a s m e b) (h1:SrtD l a m) (h2:SrtD l m b) (g1:s≤m) (g2:m≤e) (g3:e≤b) (hc:s+(e-m)=c) (hn:¬(a<s∧s<c)) (g0:a≤s):SrtD k a c:=by
 subst hc
 by_cases hs:a=s
 ·subst hs;exact h.p2 h2 g1 g2 g3
 ·exact (h.p1 h1 g1).sub (Nat.le_refl _) (by omega)
theorem Rot.right {l k:List α} {a s m e b c:Nat} (h:Rot l k a s m e b) (h1:SrtD l a m) (h2:SrtD l m b) (g0:a≤s) (g1:s≤m) (g2:m≤e) (hc:s+(e-m)=c) (hn:¬(c<e∧e<b)) (g3:e≤b):SrtD k c b:=by
 subst hc
 by_cases hs:e=b
 ·subst hs;exact h.p3 h1 g0 g1 g2
 ·exact (h.p4 h2 g1 g2).sub (by omega) (Nat.le_refl _)
theorem Seg.keepD {k k1:List α} {a c p q:Nat} (h:Seg k k1 a c) (hc:c≤p) (hs:SrtD k p q):SrtD k1 p q:=fun x y h1 h2 h3=>by
 have e:∀z,c≤z→a0I k1 z=a0I k z:=fun z hz=>by unfold a0I;rw[h.out z (.inr hz)]
 rw[e x (by omega),e y (by omega)];exact hs x y h1 h2 h3
theorem c0T {l:List α} {a m b c S R s:Nat} (m1:SrtD l a m) (m2:SrtD l m b) (ham:a<m) (hmb:m<b) (hc:c=(a+b) / 2) (hS:(c<m∧S=c+m-b∧R=c)∨(m≤c∧S=a∧R=m)) (hs1:S≤s) (hs2:s≤R)
  (lo:∀q,S≤q→q<s→a0I l q≤a0I l (c+m-1-q)) (hi:∀q,s≤q→q<R→a0I l (c+m-1-q)<a0I l q) :
  (∀p q,s≤p→p<m→m≤q→q<c+m-s→a0I l q<a0I l p)∧(∀p q,a≤p→p<s→c+m-s≤q→q<b→a0I l p≤a0I l q):=by
 refine⟨fun p q p1 p2 q1 q2=>?_,fun p q p1 p2 q1 q2=>?_⟩
 ·have hlt:s<R:=by omega
  have h1:=hi s (Nat.le_refl _) hlt
  have h2:=m1.le (p:=s) (q:=p) (by omega) p1 p2
  have h3:=m2.le (p:=q) (q:=c+m-1-s) q1 (by omega) (by omega)
  omega
 ·have hlt:S<s:=by omega
  have h1:=lo (s-1) (by omega) (by omega)
  have h2:=m1.le (p:=p) (q:=s-1) p1 (by omega) (by omega)
  have h3:=m2.le (p:=c+m-1-(s-1)) (q:=q) (by omega) (by omega) q2
  omega
theorem c4Z {l:List α} {a m b c S R r h:Nat} (m1:SrtD l a m) (m2:SrtD l m b) (ham:a<m) (hmb:m<b) (hc:c=(a+b) / 2) (hS:(c<m∧S=c+m-b∧R=c)∨(m≤c∧S=a∧R=m)) (h1:S≤h) (h2:h<r) (h3:r≤R)
  (hd:a0I l h≤a0I l (c+m-1-h)) (q:Nat) (q1:S≤q) (q2:q<h+1):a0I l q≤a0I l (c+m-1-q):=by
 have e1:=m1.le (p:=q) (q:=h) (by omega) (by omega) (by omega)
 have e2:=m2.le (p:=c+m-1-h) (q:=c+m-1-q) (by omega) (by omega) (by omega)
 omega
theorem c4Y {l:List α} {a m b c S R s h:Nat} (m1:SrtD l a m) (m2:SrtD l m b) (ham:a<m) (hmb:m<b) (hc:c=(a+b) / 2) (hS:(c<m∧S=c+m-b∧R=c)∨(m≤c∧S=a∧R=m)) (h1:S≤s) (h2:s≤h) (h3:h<R)
  (hd:a0I l (c+m-1-h)<a0I l h) (q:Nat) (q1:h≤q) (q2:q<R):a0I l (c+m-1-q)<a0I l q:=by
 have e1:=m1.le (p:=h) (q:=q) (by omega) (by omega) (by omega)
 have e2:=m2.le (p:=c+m-1-q) (q:=c+m-1-h) (by omega) (by omega) (by omega)
 omega
theorem b8P {l:List α} {i j:Nat} {hi:i<l.length} {hj:j<l.length} (h:b4a (Day.day l[i]) (Day.day l[j])<0):a0I l i<a0I l j:=by
 rw[a6N]at h;rw[a1x hi,a1x hj];exact h
theorem b8O {l:List α} {i j:Nat} {hi:i<l.length} {hj:j<l.length} (h:¬b4a (Day.day l[i]) (Day.day l[j])<0):a0I l j≤a0I l i:=by
 rw[a6N]at h;rw[a1x hi,a1x hj];omega
end Go.Sx
set_option linter.all false
namespace Go.Sx
open Go
variable {α:Type} [Day α]
inductive Pre (l:List α) (q:Nat):Nat→Prop
 |zero:Pre l q 0
 |snoc {a:Nat}:Pre l q a→SrtD l a (a+q)→Pre l q (a+q)
inductive Blk (l:List α) (q n:Nat):Nat→Prop
 |done {s:Nat}:n≤s→Blk l q n s
 |step {s:Nat}:SrtD l s (min (s+q) n)→Blk l q n (s+q)→Blk l q n s
theorem SrtD.same {l m:List α} {a b:Nat} (h:SrtD l a b) (he:∀k,a≤k→k<b→m[k]? = l[k]?):SrtD m a b:=fun p q p1 p2 p3=>by
 have e:∀z,a≤z→z<b→a0I m z=a0I l z:=fun z h1 h2=>by unfold a0I;rw[he z h1 h2]
 rw[e p p1 (by omega),e q (by omega) p3];exact h p q p1 p2 p3
theorem Pre.same {l m:List α} {q a:Nat} (h:Pre l q a) (he:∀k,k<a→m[k]? = l[k]?):Pre m q a:=by
 induction h with
 |zero=>exact .zero
 |snoc h1 h2 ih=>exact .snoc (ih fun k hk=>he k (by omega)) (h2.same fun k _ hk=>he k hk)
theorem Blk.same {l m:List α} {q n s:Nat} (h:Blk l q n s) (he:∀k,s≤k→k<n→m[k]? = l[k]?):Blk m q n s:=by
 induction h with
 |done h=>exact .done h
 |step h1 h2 ih=>exact .step (h1.same fun k h3 h4=>he k h3 (by omega)) (ih fun k hk hk2=>he k (by omega) hk2)
theorem Pre.blk {l:List α} {q n a:Nat} (h:Pre l q a) (han:a≤n) (hb:Blk l q n a):Blk l q n 0:=by
 induction h with
 |zero=>exact hb
 |snoc h1 h2 ih=>exact ih (by omega) (.step (h2.sub (Nat.le_refl _) (by omega)) hb)
theorem Pre.put {l m:List α} {q a:Nat} (h:Pre l q a) (hs:Seg l m a (a+q)):Pre m q (a+q):=.snoc (h.same fun k hk=>hs.out k (.inl hk)) hs.srt
theorem Pre.last {l m:List α} {q a n:Nat} (h:Pre l q a) (hs:Seg l m a n) (han:a≤n) (hq:n<a+q):Blk m q n 0:=
 (h.same fun k hk=>hs.out k (.inl hk)).blk han (.step (hs.toD.sub (Nat.le_refl _) (by omega)) (.done (by omega)))
theorem Blk.two {l:List α} {q n s:Nat} (h:Blk l q n s) (hs:s+2 * q≤n) (hq:1≤q):SrtD l s (s+q)∧SrtD l (s+q) (s+2 * q)∧Blk l q n (s+2 * q):=by
 cases h with
 |done h=>omega
 |step h1 h2=>cases h2 with
  |done h=>omega
  |step h3 h4=>exact⟨h1.sub (Nat.le_refl _) (by omega),h3.sub (Nat.le_refl _) (by omega),by rw[show s+2 * q=s+q+q from by omega];exact h4⟩
theorem Blk.one {l:List α} {q n s:Nat} (h:Blk l q n s) (hs:s+q<n):SrtD l s (s+q)∧(n≤s+2 * q→SrtD l (s+q) n):=by
 cases h with
 |done h=>omega
 |step h1 h2=>cases h2 with
  |done h=>omega
  |step h3 h4=>exact⟨h1.sub (Nat.le_refl _) (by omega),fun h=>h3.sub (Nat.le_refl _) (by omega)⟩
theorem Blk.all {l:List α} {q n s:Nat} (h:Blk l q n s) (hs:n≤s+q):SrtD l s n:=by
 cases h with
 |done h=>exact SrtD.none (by omega)
 |step h1 h2=>exact h1.sub (Nat.le_refl _) (by omega)
def b2D (l:List α):Prop:=l.Pairwise fun x y=>Day.day x≤Day.day y
theorem SrtD.pw {l:List α} (h:SrtD l 0 l.length):b2D l:=by
 rw[b2D,List.pairwise_iff_getElem];intro i j hi hj hij
 have:=h i j (Nat.zero_le _) hij hj
 rwa[a1x hi,a1x hj]at this
theorem b4V:∀(m m':List α),b2D m→b2D m'→(∀d:Int,m.filter (fun e=>decide (Day.day e=d))=m'.filter (fun e=>decide (Day.day e=d)))→m=m':=by
 intro m
 induction m with
 |nil=>
  intro m' _ _ h
  cases m' with
  |nil=>rfl
  |cons y r=>have:=h (Day.day y);simp at this
 |cons x r ih=>
  intro m' h1 h2 h
  cases m' with
  |nil=>have:=h (Day.day x);simp at this
  |cons y r'=>
   unfold b2D at h1 h2
   rw[List.pairwise_cons]at h1 h2
   have hx:x∈(y::r'):=by
    have:x∈(y::r').filter (fun e=>decide (Day.day e=Day.day x)):=by rw[←h];simp
    exact (List.mem_filter.1 this).1
   have hy:y∈(x::r):=by
    have:y∈(x::r).filter (fun e=>decide (Day.day e=Day.day y)):=by rw[h];simp
    exact (List.mem_filter.1 this).1
   have d1:Day.day y≤Day.day x:=by
    rcases List.mem_cons.1 hx with e|hx
    ·rw[e];exact Int.le_refl _
    ·exact h2.1 x hx
   have d2:Day.day x≤Day.day y:=by
    rcases List.mem_cons.1 hy with e|hy
    ·rw[e];exact Int.le_refl _
    ·exact h1.1 y hy
   have hd:Day.day y=Day.day x:=Int.le_antisymm d1 d2
   have h0:=h (Day.day x)
   simp only[List.filter_cons,hd,decide_true,if_true,List.cons.injEq]at h0
   obtain⟨rfl,h0⟩:=h0
   congr 1
   refine ih r' h1.2 h2.2 fun d=>?_
   have h3:=h d
   simp only[List.filter_cons]at h3
   split at h3
   ·simpa using h3
   ·exact h3
def a8v (e:α):List α→List α
 | []=>[e]
 |x::r=>if Day.day e≤Day.day x then e::x::r else x::a8v e r
def a0U (l:List α):List α:=l.foldr a8v []
theorem b5A {e y:α}:∀{l:List α},y∈a8v e l↔y=e∨y∈l
 | []=>by simp[a8v]
 |x::r=>by
  simp only[a8v]
  split
  ·simp
  ·simp only[List.mem_cons,b5A (l:=r)]
   constructor
   ·rintro (h|h|h)
    ·exact .inr (.inl h)
    ·exact .inl h
    ·exact .inr (.inr h)
   ·rintro (h|h|h)
    ·exact .inr (.inl h)
    ·exact .inl h
    ·exact .inr (.inr h)
theorem b5B {e:α}:∀{l:List α},b2D l→b2D (a8v e l)
 | [],_=>by simp[a8v,b2D]
 |x::r,h=>by
  unfold b2D at h
  have h':=List.pairwise_cons.1 h
  simp only[a8v]
  split
  ·rename_i hd
   refine List.pairwise_cons.2 ⟨fun y hy=>?_,h⟩
   rcases List.mem_cons.1 hy with rfl|hy
   ·exact hd
   ·exact Int.le_trans hd (h'.1 y hy)
  ·rename_i hd
   refine List.pairwise_cons.2 ⟨fun y hy=>?_,b5B h'.2⟩
   rcases b5A.1 hy with rfl|hy
   ·omega
   ·exact h'.1 y hy
theorem b5y (e:α):∀l:List α,(a8v e l).length=l.length+1
  | []=>rfl
  | x :: r => by simp only [a8v]; split; · simp
                 · simp[b5y e r]
theorem a9r (e:α) (d:Int):∀l:List α,(a8v e l).filter (fun e=>decide (Day.day e=d))=(e::l).filter (fun e=>decide (Day.day e=d))
 | []=>rfl
 |x::r=>by
  simp only[a8v]
  split
  ·rfl
  ·rename_i hd
   rw[List.filter_cons,a9r e d r]
   simp only[List.filter_cons]
   by_cases h1:Day.day x=d
   ·by_cases h2:Day.day e=d
    ·omega
    ·simp[h1,h2]
   ·simp[h1]
theorem a3J:∀l:List α,b2D (a0U l)
 | []=>List.Pairwise.nil
 |x::r=>b5B (a3J r)
theorem a4j:∀l:List α,(a0U l).length=l.length
 | []=>rfl
 |x::r=>(b5y x (a0U r)).trans (by rw[a4j r];rfl)
theorem a2u (d:Int):∀l:List α,(a0U l).filter (fun e=>decide (Day.day e=d))=l.filter (fun e=>decide (Day.day e=d))
 | []=>rfl
 |x::r=>(a9r x d (a0U r)).trans (by rw[List.filter_cons,List.filter_cons,a2u d r])
theorem b6z {l m:List α} (h:Stb l m) (hs:b2D m):m=a0U l:=b4V m _ hs (a3J l) fun d=>by rw[h.2 d,a2u]
theorem a4k {l:List α} {x:α}:x∈a0U l↔x∈l:=by
 have h:∀(m:List α),x∈m↔x∈m.filter (fun e=>decide (Day.day e=Day.day x)):=fun m=>by simp
 rw[h,a2u,←h]
section
variable {P:Program} {n:Sz} {E:Ent} {I:IMap} {L:LL} {H:List Res} {K:Act→World→Prop}
theorem c1i {g e k m:Nat} {xss:List (List Value)} (hU:Uk k xss) (hm:xss.length=m) (hl:m≤maxLen) (h:SX n E I L (.row (.slice (some ⟨g,0,none⟩) m m) e k m xss.flatten::H) K):SX n E I L (.blk g e xss.flatten::H) K:=by
 have:=a2G (rest:=[]) hU (fun c hc=>(by cases hc)) hm (by simp) hl h
 simpa using this
end
end Go.Sx
set_option linter.all false
namespace Go.Sx
open Go
def c7T (P:Program) (l:Nat) (args:List Value) (I:IMap) (H:List Res) (post:Value→IMap→List Res→Prop):Prop:=
 ∀w,Mem ⟨a2l H,I,w⟩ I H w→After P (Instr.yield l args.toArray) w (a8U ⟨a2l H,I,w⟩ post)
def a5I {α:Type} (P:Program) (l:Nat) (rd:IMap→List Value→α→Prop) (ok:List α→α→Prop) (J:Bool→List α→IMap→List Res→Prop):Prop:=
 ∀pre x vs I H,J true pre I H→rd I vs x→ok pre x→c7T P l vs I H fun u I' H'=>∃b,u = .bool b∧J b (pre++[x]) I' H'
def c1M {α:Type} (J:Bool→List α→IMap→List Res→Prop):Prop:=∀b pre I I' H,ILe I I'→J b pre I H→J b pre I' H
def b6M {α:Type} (P:Program) (f:FuncId) (cap:List Value) (I0:IMap) (rd:IMap→List Value→α→Prop) (ok:List α→α→Prop) (full part:List α→Prop):Prop:=
 ∀(l:Nat) (J:Bool→List α→IMap→List Res→Prop) (I:IMap) (Hc:List Res),ILe I0 I→c1M J→a5I P l rd ok J→J true [] I Hc →
  FnH P f (.func (.yield l) #[] #[]::cap).toArray I Hc fun _ I' H'=>∃b pre,J b pre I' H'∧(if b then full pre else part pre)
section
variable {P:Program} {ρ:Option Nat} {n:Sz} {E:Ent} {I I':IMap} {L:LL} {H:List Res} {Q:Exit→Act→World→Prop} {ops:Array Oper} {K:Act→World→Prop}
variable {d ty:Nat} {pos:String} {af:Array Edge}
theorem b0m {a:Act} {w:World} {fo:Operand} {as_:List Operand} {ats:Array TypeId} {l:Nat} {args:List Value} (s:St n a L) (hf:ev L fo=some (.func (.yield l) #[] #[])) (ha:evs L as_=some args) (o:Oper)
  (ho:o.op = .call { callee:=.value fo,args:=as_.toArray,argTypes:=ats }):(execOp a.eval o).run P w=(Instr.yield l args.toArray).run P w:=by
 have ha':as_.toArray.map a.eval=args.toArray:=by rw[←a6S s as_ args ha];simp
 simp only[execOp,ho,resolve,ha',s.ev hf,Deferred.ofValue,Sem.run_bind,Sem.run_pure,Result.andThen_ok,invoke]
 congr 1
 congr 1
 simp
theorem b4w {α:Type} {l:Nat} {rd:IMap→List Value→α→Prop} {ok:List α→α→Prop} {J:Bool→List α→IMap→List Res→Prop} {Hc:List Res} {fo:Operand} {as_:List Operand} {ats:Array TypeId} {vs:List Value} {pre:List α} {x:α}
  (hy:a5I P l rd ok J) (hJ:J true pre I Hc) (hr:rd I vs x) (hk:ok pre x) (hf:ev L fo=some (.func (.yield l) #[] #[])) (ha:evs L as_=some vs) (hd:Nat.blt d n.sz=true)
  (k:∀b I' Hc',ILe I I'→J b (pre++[x]) I' Hc'→SX n E I' ((d,.bool b)::L) (H++Hc') K) :
  SX n E I L (H++Hc) (one P ops Q ⟨some d,.call { callee:=.value fo,args:=as_.toArray,argTypes:=ats },ty,pos,af,none⟩ K):=by
 refine a3T List.perm_append_comm ?_;refine b9Q (hy pre x vs I Hc hJ hr hk) (fun a w s=>b0m s hf ha _ rfl) hd fun v I' H' hI hp=>?_
 obtain⟨b,rfl,hp⟩:=hp;exact a3T List.perm_append_comm (k b I' H' hI hp)
def putAll:List (Nat×Value)→LL→LL
 | [],L=>L
 |(i,v)::r,L=>putAll r ((i,v)::L)
theorem St.putAll {k:Nat}:∀(ps:List (Nat×Value)) {a:Act} {L:LL},St ⟨k,[]⟩ a L→(∀p∈ps,p.1<k)→St ⟨k,[]⟩ { a with tmps:=ps.foldl (fun t p=>t.setIfInBounds p.1 p.2) a.tmps } (putAll ps L)
 | [],_,_,s,_=>s
 |(i,v)::r,a,L,s,h=>by
  have hi:i<k:=h (i,v) (by simp)
  have s1:St ⟨k,[]⟩ (a.put (some i) v) ((i,v)::L):=s.put (by simpa[Nat.blt_eq]using hi)
  exact St.putAll r s1 (fun p hp=>h p (by simp[hp]))
structure Rec where
 l:Nat
 D:Nat
 ready:Loop
 hs:ready.state = .ready
 hp:ready.pending=none
def Rec.busy (r:Rec):Loop:={ r.ready with state:=.busy }
def Rec.done (r:Rec) (c:Code):Loop:={ r.ready with state:=.done,pending:=some c }
def Rec.mark (r:Rec):Res:=.any r.D (.deferred (some []))
def JR {α σ:Type} (I0:IMap) (r:Rec) (Hx:σ→List Res) (p:List α→IMap→σ→Prop) (px:List α→IMap→σ→Code→Prop):Bool→List α→IMap→List Res→Prop
 |true,pre,I,H=>∃s,H = .any r.l (.loop r.ready)::r.mark::Hx s∧ILe I0 I∧p pre I s
 |false,pre,I,H=>∃s c,H = .any r.l (.loop (r.done c))::r.mark::Hx s∧ILe I0 I∧px pre I s c
def c9Q {α σ:Type} (P:Program) (E:Ent) (I0:IMap) (r:Rec) (Hx:σ→List Res) (p:List α→IMap→σ→Prop) (px:List α→IMap→σ→Code→Prop) (pre:List α):Exit→Act→World→Prop:=
 roundPost P r.l (a8U E fun u I' H'=>∃b,u = .bool b∧JR I0 r Hx p px b pre I' H')
def c4u (P:Program) (r:Rec) (body:Code) (R:Exit→Act→World→Prop):Exit→Act→World→Prop:=
 Exit.then (fun a w=>∃w',(Instr.beginRound r.l).run P w = .ok () w'∧body.wq (some r.l) P R a w') (fun _ _ _=>False)
variable {α σ:Type} {I0:IMap} {r:Rec} {Hx:σ→List Res} {p:List α→IMap→σ→Prop} {px:List α→IMap→σ→Code→Prop} {pre:List α}
theorem a5T {w:World} {o o':Loop} {l:Nat} (m:Mem E I (.any l (.loop o)::H) w):Mem E I (.any l (.loop o')::H) (w.putObj l (.loop o')):=by
 have hr:w.heap[l]? = some (.loop o):=m.holds _ (List.mem_cons_self ..)
 have hlt:l<w.heap.size:=(Array.getElem?_eq_some_iff.1 hr).1
 exact m.step rfl ⟨rfl,Nat.le_refl _⟩ rfl (by simp) (fun k hk hne=>World.putObj_heap_other (fun e=>hne (by subst e;rfl))) (World.putObj_heap_same hlt) (fun g hg=>.inl hg)
theorem a6A {body:Code} {R:Exit→Act→World→Prop} (h:SX n E I L (.any r.l (.loop r.busy)::H) (body.wq (some r.l) P R)):SX n E I L (.any r.l (.loop r.ready)::H) (c4u P r body R .normal):=by
 intro a w s m
 have hl:w.heap[r.l]? = some (.loop r.ready):=m.holds _ (List.mem_cons_self ..)
 exact⟨_,run_beginRound hl r.hs,h a _ s (a5T m)⟩
theorem a9H (s':σ) (hI:ILe I0 I) (hp:p pre I s') (hH:H=Hx s'):SX n E I L (.any r.l (.loop r.busy)::r.mark::H) (c9Q P E I0 r Hx p px pre .normal):=by
 subst hH;intro a w s m
 have hl:w.heap[r.l]? = some (.loop r.busy):=m.holds _ (List.mem_cons_self ..)
 refine⟨_,_,run_endRound none hl,.bool true,I,_,rfl,a5T m,true,rfl,s',?_,hI,hp⟩
 have:(({ r.busy with state:=if (none:Option Code).isNone=true then .ready else .done,pending:=none }:Loop))=r.ready:=by
  have h1:=r.hs;have h2:=r.hp
  unfold Rec.busy
  cases hr:r.ready
  rw[hr]at h1 h2
  simp only at h1 h2
  subst h1 h2
  rfl
 rw[this]
theorem c4R {c:Code} (s':σ) (hI:ILe I0 I) (hp:px pre I s' c) (hH:H=Hx s') {a:Act} {w:World} (m:Mem E I (.any r.l (.loop r.busy)::r.mark::H) w) :
  ∃v w',(Instr.endRound r.l (some c)).run P w = .ok v w'∧a8U E (fun u I' H'=>∃b,u = .bool b∧JR I0 r Hx p px b pre I' H') (.returned v) w':=by
 subst hH
 have hl:w.heap[r.l]? = some (.loop r.busy):=m.holds _ (List.mem_cons_self ..)
 exact⟨_,_,run_endRound (some c) hl,.bool false,I,_,rfl,a5T m,false,rfl,s',c,rfl,hI,hp⟩
theorem d0A (s':σ) (hI:ILe I0 I) (hp:px pre I s' .ret) (hH:H=Hx s'):SX n E I L (.any r.l (.loop r.busy)::r.mark::H) (c9Q P E I0 r Hx p px pre .ret):=fun _ _ _ m=>c4R (a:=⟨#[],[]⟩) s' hI hp hH m
theorem c9n {id:Nat} (s':σ) (hI:ILe I0 I) (hp:px pre I s' (.exit id)) (hH:H=Hx s'):SX n E I L (.any r.l (.loop r.busy)::r.mark::H) (c9Q P E I0 r Hx p px pre (.exit id)):=fun _ _ _ m=>c4R (a:=⟨#[],[]⟩) s' hI hp hH m
theorem a6s {k gf:Nat} {D:List Mk} {H0:List Res} {g:Operand} {ps:List Nat} {assign body:Code} {cap:List Value} {rd:IMap→List Value→α→Prop} {ok:List α→α→Prop} {full part:List α→Prop}
  (s0:σ) (Hx:σ→List Res) (p:List α→IMap→σ→Prop) (px:List α→IMap→σ→Code→Prop)
  (hg:ev L g=some (.func (.func gf) #[] cap.toArray)) (hcall:∀(args:Array Value) (w:World),(callFunc gf args).run P w = .ok (.enter gf args) w)
  (hit:b6M P gf cap I rd ok full part) (hlen:∀I vs x,rd I vs x→vs.length=ps.length) (hps:ps.all (fun i=>Nat.blt i k)=true)
  (hmp:∀pre I I' s,ILe I I'→p pre I s→p pre I' s) (hmx:∀pre I I' s c,ILe I I'→px pre I s c→px pre I' s c)
  (h0:p [] I s0) (hH:Hx s0++H0=H)
  (round:∀(r:Rec) (E1:Ent) pre x vs I1 s,ILe I I1→p pre I1 s→rd I1 vs x→ok pre x →
   SX ⟨k,[]⟩ E1 I1 (putAll (ps.zip vs) L) (.any r.l (.loop r.ready)::r.mark::Hx s) (assign.wq (some r.l) P (c4u P r body (c9Q P E1 I r Hx p px (pre++[x])))))
  (hdone:∀D' pre I1 s,ILe I I1→full pre→p pre I1 s→SX ⟨k,.m D'::D⟩ E I1 L (.any D' (.deferred (some []))::(Hx s++H0)) (Q .normal))
  (hstop:∀D' pre I1 s c,ILe I I1→part pre→px pre I1 s c→SX ⟨k,.m D'::D⟩ E I1 L (.any D' (.deferred (some []))::(Hx s++H0)) (c.wq none P Q)) :
  SX ⟨k,D⟩ E I L H ((Code.rangeFunc g ps.toArray assign body).wq none P Q):=by
 subst hH;intro a w s m;refine wpIn_rangeFunc ?_;intro fn _;obtain⟨rec,hrec⟩:∃rec:Loop,rec = { state:=.ready,pending:=none,fn,tmps:=a.tmps,params:=ps.toArray,assign,body,defers:=w.heap.size }:=⟨_,rfl⟩;obtain⟨W1,hW1⟩:∃W1,(w.alloc (.deferred (some []))).alloc (.loop rec)=W1:=⟨_,rfl⟩;obtain⟨r,hr⟩:∃r:Rec,r=⟨w.heap.size+1,w.heap.size,rec,by rw[hrec],by rw[hrec]⟩:=⟨_,rfl⟩
 have hrl:r.l=w.heap.size+1:=by rw[hr]
 have hrD:r.D=w.heap.size:=by rw[hr]
 have hrr:r.ready=rec:=by rw[hr]
 have hevg:a.eval g = .func (.func gf) #[] cap.toArray:=s.ev hg
 refine⟨w.heap.size+1,[{ target:=.collected w.heap.size,args:=#[] }],W1,{ target:=.fn (.func gf) cap.toArray,args:=#[.func (.yield (w.heap.size+1)) #[] #[]] },W1,gf,
  #[.func (.yield (w.heap.size+1)) #[] #[]]++cap.toArray,W1,?_,?_,fun _ _=>trivial,?_,fun h=>by simp[fen,Fence.wide]at h,?_⟩
 ·rw[←hW1,hrec];exact run_enterLoop_outer _ _ _ _ _
 ·simp only[resolve,hevg]
  simp[go_sem]
 ·simp[invoke,go_sem,hcall]
 have m1:Mem E I (.any r.D (.deferred (some []))::(Hx s0++H0)) (w.alloc (.deferred (some []))):=by
  rw[hrD];exact m.new rfl ⟨rfl,Nat.le_refl _⟩ rfl (by simp) (fun k hk=>a5c w _ k hk) (heap_alloc_new w _) fun g hg=>by simp only[Res.foot,Option.some.injEq]at hg;omega
 have m2:Mem E I ((.any r.l (.loop r.ready)::r.mark::Hx s0)++H0) W1:=by
  rw[hrl,hrr,←hW1]
  have hsz:(w.alloc (.deferred (some []))).heap.size=w.heap.size+1:=by simp
  refine m1.new rfl ⟨rfl,Nat.le_refl _⟩ rfl (by simp) (fun k hk=>a5c _ _ k hk) ?_ fun g hg=>by simp only[Res.foot,Option.some.injEq]at hg;omega
  have:=heap_alloc_new (w.alloc (.deferred (some []))) (.loop rec)
  rw[hsz]at this
  exact this
 -- the rounds
 have hJm:c1M (JR I r Hx p px):=by
  rintro (_|_) pre I1 I2 H1 hle ⟨s1,h⟩
  ·obtain⟨c,h1,h2,h3⟩:=h;exact⟨s1,c,h1,h2.trans hle,hmx _ _ _ _ _ hle h3⟩
  ·obtain⟨h1,h2,h3⟩:=h;exact⟨s1,h1,h2.trans hle,hmp _ _ _ _ hle h3⟩
 have hy:a5I P r.l rd ok (JR I r Hx p px):=by
  rintro pre x vs I1 H1 ⟨s1,rfl,hle,hp1⟩ hx hok w1 mw
  have hl1:w1.heap[r.l]? = some (.loop r.ready):=mw.holds _ (List.mem_cons_self ..)
  have hI1:=round r ⟨a2l (.any r.l (.loop r.ready)::r.mark::Hx s1),I1,w1⟩ pre x vs I1 s1 hle hp1 hx hok
  have hvl:vs.toArray.size=r.ready.params.size:=by rw[hrr,hrec];simp[hlen _ _ _ hx]
  unfold After;rw[run_yield (P:=P) hl1 hvl];refine roundIn_of_wpIn trivial ?_
  have st1:St ⟨k,[]⟩ { tmps:=((r.ready.params.zip vs.toArray).foldl (fun tmps x=>tmps.setIfInBounds x.1 x.2) r.ready.tmps),defers:=[] } (putAll (ps.zip vs) L):=by
   have h0:St ⟨k,[]⟩ { a with defers:=[] } L:=⟨s.size,rfl,s.get⟩
   have h1:=h0.putAll (ps.zip vs) (fun q hq=>by
    have h2:=List.all_eq_true.1 hps q.1 (List.of_mem_zip hq).1
    simpa[Nat.blt_eq]using h2)
   have e:(r.ready.params.zip vs.toArray).foldl (fun tmps x=>tmps.setIfInBounds x.1 x.2) r.ready.tmps=(ps.zip vs).foldl (fun t p=>t.setIfInBounds p.1 p.2) a.tmps:=by
    rw[hrr,hrec]
    simp
   rw[e];exact h1
  have m1:=Mem.call (E:=⟨a2l (.any r.l (.loop r.ready)::r.mark::Hx s1),I1,w1⟩) (Hc:=.any r.l (.loop r.ready)::r.mark::Hx s1) (H0:=[]) (by simpa using mw)
  have h3:=hI1 _ _ st1 m1
  have e2:r.ready.assign=assign:=by rw[hrr,hrec]
  have e3:r.ready.body=body:=by rw[hrr,hrec]
  rw[e2,e3];exact h3
 have hf:=(hit r.l (JR I r Hx p px) I _ (ILe.refl I) hJm hy ⟨s0,rfl,ILe.refl I,h0⟩).go W1 m2.call
 unfold After at hf
 rw[hcall]at hf
 have hargs:#[.func (.yield (w.heap.size+1)) #[] #[]]++cap.toArray=(Value.func (.yield r.l) #[] #[]::cap).toArray:=by rw[hrl];simp
 rw[hargs];refine a9c (Calls.mono hf ?_);rintro e w2 ⟨v,I',H',rfl,hm',b,pre,hJ,hfp⟩
 have hb:=m2.back hm'
 have hsame:∀_:Unit,St ⟨k,.m r.D::D⟩ { a with defers:=[{ target:=.collected w.heap.size,args:=#[] }]++a.defers } L:=fun _=>⟨s.size,by rw[hrD];show _::a.defers=_;rw[s.defers];rfl,s.get⟩
 cases b with
 |true=>
  obtain⟨s2,rfl,hle,hp2⟩:=hJ
  have hl2:w2.heap[w.heap.size+1]? = some (.loop r.ready):=by rw[←hrl];exact hb.holds _ (List.mem_cons_self ..)
  refine⟨none,_,by have:=run_endLoop (P:=P) hl2 (by rw[r.hs];simp);rw[r.hp]at this;exact this,?_⟩;rw[←hrl]
  have m3:=(a5T (o':={ r.ready with state:=.exhausted,pending:=none }) hb).drop
  exact hdone r.D pre I' s2 hle hfp hp2 _ _ (hsame ()) m3
 |false=>
  obtain⟨s2,c,rfl,hle,hp2⟩:=hJ
  have hl2:w2.heap[w.heap.size+1]? = some (.loop (r.done c)):=by rw[←hrl];exact hb.holds _ (List.mem_cons_self ..)
  refine⟨some c,_,by have:=run_endLoop (P:=P) hl2 (by simp[Rec.done]);exact this,?_⟩;rw[←hrl]
  have m3:=(a5T (o':={ r.done c with state:=.exhausted }) hb).drop
  exact hstop r.D pre I' s2 c hle hfp hp2 _ _ (hsame ()) m3
end
end Go.Sx
set_option linter.all false
namespace Go.Sx
open Go
section
variable {P:Program} {ρ:Option Nat} {n:Sz} {E:Ent} {I I':IMap} {L:LL} {H:List Res} {K:Act→World→Prop} {Q:Exit→Act→World→Prop} {ops:Array Oper} {N:Act→World→Prop}
variable {α β γ δ ε:Type}
def c4q (n:Sz) (E:Ent) (Ix:α→β→γ→δ→IMap) (Lx:α→β→γ→δ→LL) (Hx:α→β→γ→δ→List Res) (p:α→β→γ→δ→Prop) (μ:α→β→γ→δ→Nat) (x:α) (y:β) (z:γ) (t:δ):Act→World→Prop:=
 fun a w=>∃x' y' z' t',p x' y' z' t'∧μ x' y' z' t'<μ x y z t∧St n a (Lx x' y' z' t')∧Mem E (Ix x' y' z' t') (Hx x' y' z' t') w
theorem a3B (x0:α) (y0:β) (z0:γ) (t0:δ) (Ix:α→β→γ→δ→IMap) (Lx:α→β→γ→δ→LL) (Hx:α→β→γ→δ→List Res) (p:α→β→γ→δ→Prop) (μ:α→β→γ→δ→Nat) {c:Code}
  (h0:p x0 y0 z0 t0) (hI:Ix x0 y0 z0 t0=I) (hL:Sub (Lx x0 y0 z0 t0) L) (hH:Hx x0 y0 z0 t0=H)
  (round:∀x y z t,p x y z t→SX n E (Ix x y z t) (Lx x y z t) (Hx x y z t) (c.wq ρ P (Exit.then (c4q n E Ix Lx Hx p μ x y z t) Q))):SX n E I L H ((Code.loop c).wq ρ P Q):=
 a0Q (α:=α×β×γ×δ) (x0,y0,z0,t0) (fun q=>Ix q.1 q.2.1 q.2.2.1 q.2.2.2) (fun q=>Lx q.1 q.2.1 q.2.2.1 q.2.2.2) (fun q=>Hx q.1 q.2.1 q.2.2.1 q.2.2.2) (fun q=>p q.1 q.2.1 q.2.2.1 q.2.2.2) (fun q=>μ q.1 q.2.1 q.2.2.1 q.2.2.2) h0 hI hL hH
  fun ⟨x,y,z,t⟩ hp=>b2t (round x y z t hp) fun a w h=>a4s (fun e a w q=>by
   cases e with
   |normal=>obtain⟨x',y',z',t',h1,h2,h3,h4⟩:=q;exact⟨(x',y',z',t'),h1,h2,h3,h4⟩
   |_=>exact q) h
theorem a1N {Ix:α→β→γ→δ→IMap} {Lx:α→β→γ→δ→LL} {Hx:α→β→γ→δ→List Res} {p:α→β→γ→δ→Prop} {μ:α→β→γ→δ→Nat} {x:α} {y:β} {z:γ} {t:δ} (x':α) (y':β) (z':γ) (t':δ) (hp:p x' y' z' t') (hμ:μ x' y' z' t'<μ x y z t)
  (hI:Ix x' y' z' t'=I) (hL:Sub (Lx x' y' z' t') L) (hH:Hx x' y' z' t'=H):SX n E I L H (c4q n E Ix Lx Hx p μ x y z t):=
 fun a w s m=>⟨x',y',z',t',hp,hμ,s.sub hL,by rw[hI,hH];exact m⟩
def c4r (n:Sz) (E:Ent) (Ix:α→β→γ→δ→ε→IMap) (Lx:α→β→γ→δ→ε→LL) (Hx:α→β→γ→δ→ε→List Res) (p:α→β→γ→δ→ε→Prop) (μ:α→β→γ→δ→ε→Nat) (x:α) (y:β) (z:γ) (t:δ) (u:ε):Act→World→Prop:=
 fun a w=>∃x' y' z' t' u',p x' y' z' t' u'∧μ x' y' z' t' u'<μ x y z t u∧St n a (Lx x' y' z' t' u')∧Mem E (Ix x' y' z' t' u') (Hx x' y' z' t' u') w
theorem a5x (x0:α) (y0:β) (z0:γ) (t0:δ) (u0:ε) (Ix:α→β→γ→δ→ε→IMap) (Lx:α→β→γ→δ→ε→LL) (Hx:α→β→γ→δ→ε→List Res) (p:α→β→γ→δ→ε→Prop) (μ:α→β→γ→δ→ε→Nat) {c:Code}
  (h0:p x0 y0 z0 t0 u0) (hI:Ix x0 y0 z0 t0 u0=I) (hL:Sub (Lx x0 y0 z0 t0 u0) L) (hH:Hx x0 y0 z0 t0 u0=H)
  (round:∀x y z t u,p x y z t u→SX n E (Ix x y z t u) (Lx x y z t u) (Hx x y z t u) (c.wq ρ P (Exit.then (c4r n E Ix Lx Hx p μ x y z t u) Q))):SX n E I L H ((Code.loop c).wq ρ P Q):=
 a0Q (α:=α×β×γ×δ×ε) (x0,y0,z0,t0,u0) (fun q=>Ix q.1 q.2.1 q.2.2.1 q.2.2.2.1 q.2.2.2.2) (fun q=>Lx q.1 q.2.1 q.2.2.1 q.2.2.2.1 q.2.2.2.2) (fun q=>Hx q.1 q.2.1 q.2.2.1 q.2.2.2.1 q.2.2.2.2) (fun q=>p q.1 q.2.1 q.2.2.1 q.2.2.2.1 q.2.2.2.2) (fun q=>μ q.1 q.2.1 q.2.2.1 q.2.2.2.1 q.2.2.2.2) h0 hI hL hH
  fun ⟨x,y,z,t,u⟩ hp=>b2t (round x y z t u hp) fun a w h=>a4s (fun e a w q=>by
   cases e with
   |normal=>obtain⟨x',y',z',t',u',h1,h2,h3,h4⟩:=q;exact⟨(x',y',z',t',u'),h1,h2,h3,h4⟩
   |_=>exact q) h
theorem a1T {Ix:α→β→γ→δ→ε→IMap} {Lx:α→β→γ→δ→ε→LL} {Hx:α→β→γ→δ→ε→List Res} {p:α→β→γ→δ→ε→Prop} {μ:α→β→γ→δ→ε→Nat} {x:α} {y:β} {z:γ} {t:δ} {u:ε} (x':α) (y':β) (z':γ) (t':δ) (u':ε) (hp:p x' y' z' t' u') (hμ:μ x' y' z' t' u'<μ x y z t u)
  (hI:Ix x' y' z' t' u'=I) (hL:Sub (Lx x' y' z' t' u') L) (hH:Hx x' y' z' t' u'=H):SX n E I L H (c4r n E Ix Lx Hx p μ x y z t u):=
 fun a w s m=>⟨x',y',z',t',u',hp,hμ,s.sub hL,by rw[hI,hH];exact m⟩
end
section
variable {P:Program} {n:Sz} {E:Ent} {I:IMap} {L:LL} {Q:Exit→Act→World→Prop} {ops:Array Oper} {K:Act→World→Prop} {d ty:Nat} {pos:String} {af:Array Edge}
variable {α:Type} {l:Nat} {rd:IMap→List Value→α→Prop} {ok:List α→α→Prop} {J:Bool→List α→IMap→List Res→Prop} {Hc:List Res} {fo:Operand} {as_:List Operand} {ats:Array TypeId} {vs:List Value} {pre:List α} {r1 r2 r3 r4 r5:Res}
theorem c2T (x:α) (hy:a5I P l rd ok J) (hJ:J true pre I Hc) (hr:rd I vs x) (hk:ok pre x) (hf:ev L fo=some (.func (.yield l) #[] #[])) (ha:evs L as_=some vs) (hd:Nat.blt d n.sz=true)
  (k:∀b I' Hc',ILe I I'→J b (pre++[x]) I' Hc'→SX n E I' ((d,.bool b)::L) (r1::Hc') K):SX n E I L (r1::Hc) (one P ops Q ⟨some d,.call { callee:=.value fo,args:=as_.toArray,argTypes:=ats },ty,pos,af,none⟩ K):=
 b4w (H:=[r1]) hy hJ hr hk hf ha hd k
theorem a8L (x:α) (hy:a5I P l rd ok J) (hJ:J true pre I Hc) (hr:rd I vs x) (hk:ok pre x) (hf:ev L fo=some (.func (.yield l) #[] #[])) (ha:evs L as_=some vs) (hd:Nat.blt d n.sz=true)
  (k:∀b I' Hc',ILe I I'→J b (pre++[x]) I' Hc'→SX n E I' ((d,.bool b)::L) (r1::r2::Hc') K):SX n E I L (r1::r2::Hc) (one P ops Q ⟨some d,.call { callee:=.value fo,args:=as_.toArray,argTypes:=ats },ty,pos,af,none⟩ K):=
 b4w (H:=[r1,r2]) hy hJ hr hk hf ha hd k
theorem c2U (x:α) (hy:a5I P l rd ok J) (hJ:J true pre I Hc) (hr:rd I vs x) (hk:ok pre x) (hf:ev L fo=some (.func (.yield l) #[] #[])) (ha:evs L as_=some vs) (hd:Nat.blt d n.sz=true)
  (k:∀b I' Hc',ILe I I'→J b (pre++[x]) I' Hc'→SX n E I' ((d,.bool b)::L) (r1::r2::r3::Hc') K):SX n E I L (r1::r2::r3::Hc) (one P ops Q ⟨some d,.call { callee:=.value fo,args:=as_.toArray,argTypes:=ats },ty,pos,af,none⟩ K):=
 b4w (H:=[r1,r2,r3]) hy hJ hr hk hf ha hd k
end
section
variable {P:Program} {n:Sz} {E:Ent} {I I':IMap} {L:LL} {H:List Res} {Q:Exit→Act→World→Prop} {ops:Array Oper} {K:Act→World→Prop} {w0:World}
variable {d ty:Nat} {pos:String} {af:Array Edge} {fo:Operand} {as_:List Operand} {ats:Array TypeId} {f:FuncId} {args:List Value} {r:Res} {X:List Nat}
def FnD (P:Program) (f:FuncId) (args:Array Value) (I:IMap) (r:Res) (p:Value→IMap→Prop):Prop:=FnH P f args I [r] fun u I' H'=>p u I'∧H'=[]
theorem c6q {p:Value→IMap→Prop} (hc:FnD P f args.toArray I r p) (h:a1R L fo as_=some (f,args)) (hd:Nat.blt d n.sz=true) (k:∀v I',ILe I I'→p v I'→SX n E I' ((d,v)::L) H K) :
  SX n E I L (r::H) (one P ops Q ⟨some d,.call { callee:=.value fo,args:=as_.toArray,argTypes:=ats },ty,pos,af,none⟩ K):=
 a4o (Hc:=[r]) hc h hd fun v I' H' hI hp=>by obtain⟨h1,rfl⟩:=hp;exact k v I' hI h1
theorem q_d {v:Value} {p:Value→IMap→Prop} (h:p v I):SX n E I L H fun _ w=>a8U E (fun u' I' H'=>p u' I'∧H'=[]) (.returned v) w:=q_i h
theorem b8h {α:Type} {J:Bool→List α→IMap→List Res→Prop} {full part:List α→Prop} {v:Value} (b:Bool) (pre:List α) (hJ:J b pre I H) (hf:if b then full pre else part pre) :
  SX n E I L H fun _ w=>a8U E (fun _ I' H'=>∃b pre,J b pre I' H'∧(if b then full pre else part pre)) (.returned v) w:=a4I (fun _ m=>m) ⟨b,pre,hJ,hf⟩
end
section
variable {n:Sz} {E:Ent} {I:IMap} {L:LL} {H:List Res} {K:Act→World→Prop} {a b r1 r2 r3 r4 r5 r6 r7 r8 r9:Res}
theorem c7p (h:SX n E I L [a,b,r1] K):SX n E I L (a::b::[r1]) K:=h
theorem c7o (h:SX n E I L (a::r1::H) K):SX n E I L (a::([r1]++H)) K:=h
theorem c1g (h:SX n E I L [a,b,r1,r2] K):SX n E I L (a::b::[r1,r2]) K:=h
theorem c1e (h:SX n E I L (a::r1::r2::H) K):SX n E I L (a::([r1,r2]++H)) K:=h
theorem b4X (h:SX n E I L [a,b,r1,r2,r3] K):SX n E I L (a::b::[r1,r2,r3]) K:=h
theorem b2s (h:SX n E I L (a::r1::r2::r3::H) K):SX n E I L (a::([r1,r2,r3]++H)) K:=h
theorem c7q (h:SX n E I L [a,b,r1,r2,r3,r4,r5] K):SX n E I L (a::b::[r1,r2,r3,r4,r5]) K:=h
theorem c1f (h:SX n E I L (a::r1::r2::r3::r4::r5::H) K):SX n E I L (a::([r1,r2,r3,r4,r5]++H)) K:=h
end
theorem b2u {n:Sz} {E:Ent} {I:IMap} {L:LL} {H:List Res} {K:Act→World→Prop} {v:Value} {t k m:Nat} {xs ys:List Value} (h:xs=ys) (hk:SX n E I L (.row v t k m ys::H) K):SX n E I L (.row v t k m xs::H) K:=h▸hk
section
variable {P:Program} {n:Sz} {E:Ent} {I:IMap} {L:LL} {H:List Res} {d ty tx tyy:Nat} {pos:String} {af:Array Edge} {x y:Operand}
end
end Go.Sx
set_option linter.all false
namespace Go.Sx
open Go
theorem c6b {α:Type} (p:α→Bool) (l:List α) : -1≤a5f p l:=by
  cases h:l.findIdx? p with
  | none => have : a5f p l = -1 := by simp [a5f, h]
            omega
  | some k => have : a5f p l = (k : Int) := by simp [a5f, h]
              omega
theorem c2C {α:Type} {p:α→Bool} {l:List α} {i:Nat} (h:a5f p l=(i:Int)) (hi:i<l.length):p l[i]=true∧∀j x,j<i→l[j]? = some x→p x=false:=by
  cases hf:l.findIdx? p with
  | none => have : a5f p l = -1 := by simp [a5f, hf]
            omega
  |some k=>
    have:a5f p l=(k:Int):=by simp[a5f,hf]
    obtain rfl:k=i:=by omega
    rw[List.findIdx?_eq_some_iff_getElem]at hf
    obtain⟨h1,h2,h3⟩:=hf;exact⟨h2,fun j x hj hx=>by obtain⟨hlt,rfl⟩:=List.getElem?_eq_some_iff.1 hx;simpa using h3 j hj⟩
def d1a (I:IMap) (vs:List Value) (x:b0o):Prop:=∃w,vs=[.agg #[w],.int .i64 x.2]∧RdS I w x.1
structure Del (p:Evt→Bool) (l m:List Evt) (i j:Nat):Prop where
 len:m.length=l.length
 le:i≤j
 hj:j≤l.length
 fst:m.take i=(l.take j).filter fun x=>!p x
 rest:m.drop j=l.drop j
theorem Del.start {p:Evt→Bool} {l:List Evt} {i:Nat} (hi:i<l.length) (hp:p l[i]=true) (hn:∀j x,j<i→l[j]? = some x→p x=false):Del p l l i (i+1):=by
 refine⟨rfl,by omega,by omega,?_,rfl⟩;rw[←a0i hi,List.filter_append]
 have h1:(l.take i).filter (fun x=>!p x)=l.take i:=by
  rw[List.filter_eq_self];intro x hx;obtain⟨j,hj,rfl⟩:=List.getElem_of_mem hx
  simp only[List.length_take]at hj
  rw[List.getElem_take,hn j _ (by omega) (List.getElem?_eq_getElem (by omega))]
  rfl
 rw[h1]
 simp[hp]
theorem Del.at_ {p:Evt→Bool} {l m:List Evt} {i j:Nat} (h:Del p l m i j) (hj:j<l.length):m[j]'(by rw[h.len];exact hj)=l[j]:=by
 have h1:(m.drop j)[0]? = (l.drop j)[0]?:=by rw[h.rest]
 rw[List.getElem?_drop,List.getElem?_drop,List.getElem?_eq_getElem (by rw[h.len];simpa using hj),List.getElem?_eq_getElem (by simpa using hj)]at h1
 simpa using h1
theorem Del.skip {p:Evt→Bool} {l m:List Evt} {i j:Nat} (h:Del p l m i j) (hj:j<l.length) (hp:p l[j]=true):Del p l m i (j+1):=by
 refine⟨h.len,by have:=h.le;omega,by omega,?_,?_⟩
 ·rw[h.fst,←a0i hj,List.filter_append];simp[hp]
 ·have:=congrArg (List.drop 1) h.rest;simpa[List.drop_drop]using this
theorem Del.keep {p:Evt→Bool} {l m:List Evt} {i j:Nat} (h:Del p l m i j) (hj:j<l.length) (hp:p l[j]=false):Del p l (m.set i l[j]) (i+1) (j+1):=by
 have hl:=h.len
 have hle:=h.le
 refine⟨by simp[hl],by omega,by omega,?_,?_⟩
 ·rw[List.take_succ_eq_append_getElem (by simp;omega),List.take_set_of_le (Nat.le_refl _),h.fst,←a0i hj,List.filter_append]
  simp[hp]
 ·rw[List.drop_set_of_lt (by omega)]
  have:=congrArg (List.drop 1) h.rest;simpa[List.drop_drop]using this
def a1u (c:List Kind):List Part→List Evt→List b0o
 |_,[]=>[]
 |s,e::r=>a0q c s e::(if (a0q c s e).2=0 then a1u c (a0q c s e).1 r else [])
theorem b0V (c:List Kind):∀(l:List Evt) (s:List Part),(a1u c s l).length≤l.length
 | [],_=>Nat.le_refl _
 |e::r,s=>by
  simp only[a1u,List.length_cons]
  split
  ·have:=b0V c r (a0q c s e).1;omega
  ·simp
abbrev c7S:=List Part×Int×Int
def a5H (c:List Kind):List Part→Int→List Evt→c7S
 |s,_,[]=>(s,-1,0)
 |s,i,e::r=>if (a0q c s e).2=0 then a5H c (a0q c s e).1 (i+1) r else ([],i,(a0q c s e).2)
def a7U (c:List Kind) (l:List Evt):c7S:=if a1g c=false then ([],-1,1) else a5H c [] 0 (a0U l)
def a6K (c:List Kind) (l:List Evt) (day:Int):c7S:=a7U c (l.filter fun e=>!decide (e.day>day))
def b7l (s:List Part) (pre:List b0o):List Part:=(pre.getLast?.map (·.1)).getD s
theorem b6p {c:List Kind}:∀(l:List Evt) (s:List Part) (i:Int),(∀x∈a1u c s l,x.2=0)→a5H c s i l=(b7l s (a1u c s l),-1,0)
 | [],s,i,_=>rfl
 |e::r,s,i,h=>by
  have h1:(a0q c s e).2=0:=h _ (by simp[a1u])
  simp only[a5H,a1u,if_pos h1]
  rw[b6p r _ _ (fun x hx=>h x (by simp only[a1u,if_pos h1];exact List.mem_cons_of_mem _ hx))]
  congr 1
  cases hs:a1u c (a0q c s e).1 r with
  |nil=>simp[b7l]
  |cons y t=>
   obtain⟨z,hz⟩:∃z,(y::t).getLast? = some z:=⟨_,List.getLast?_eq_some_getLast (by simp)⟩
   simp[b7l,List.getLast?_cons_cons,hz]
theorem b6q {c:List Kind}:∀(l:List Evt) (s:List Part) (i:Int) (pre rest:List b0o) (x:b0o),a1u c s l=pre++x::rest→(∀y∈pre,y.2=0)→x.2≠0→a5H c s i l=([],i+(pre.length:Nat),x.2)
 | [],s,i,pre,rest,x,h,_,_=>by simp[a1u]at h
 |e::r,s,i,pre,rest,x,h,hp,hx=>by
  simp only[a1u]at h
  cases pre with
  |nil=>
   simp only[List.nil_append,List.cons.injEq]at h
   simp only[a5H]
   rw[h.1,if_neg hx]
   simp
  |cons y t=>
   simp only[List.cons_append,List.cons.injEq]at h
   obtain⟨h1,h2⟩:=h
   have h3:y.2=0:=hp y (by simp)
   rw[h1]at h2
   rw[if_pos h3]at h2
   simp only[a5H,h1,if_pos h3]
   rw[b6q r y.1 (i+1) t rest x h2 (fun z hz=>hp z (by simp[hz])) hx]
   simp only[List.length_cons,Prod.mk.injEq,true_and,and_true]
   omega
structure StAt (c:List Kind) (l:List Evt) (i:Nat) (st:List Part):Prop where
 le:i≤(a1u c [] l).length
 rest:(a1u c [] l).drop i=a1u c st (l.drop i)
theorem StAt.zero (c:List Kind) (l:List Evt):StAt c l 0 []:=⟨Nat.zero_le _,rfl⟩
theorem StAt.step {c:List Kind} {l:List Evt} {i:Nat} {st:List Part} (h:StAt c l i st) (hi:i<l.length) :
  (a1u c [] l).take i++[a0q c st l[i]]=(a1u c [] l).take (i+1)∧i<(a1u c [] l).length∧((a0q c st l[i]).2=0→StAt c l (i+1) (a0q c st l[i]).1)∧((a0q c st l[i]).2≠0→(a1u c [] l).take (i+1)=a1u c [] l):=by
 have h1:=h.rest
 rw[List.drop_eq_getElem_cons hi]at h1
 simp only[a1u]at h1
 have hlt:i<(a1u c [] l).length:=by
  rcases Nat.lt_or_ge i (a1u c [] l).length with h2|h2
  ·exact h2
  ·rw[List.drop_eq_nil_of_le h2]at h1;cases h1
 rw[List.drop_eq_getElem_cons hlt]at h1
 simp only[List.cons.injEq]at h1
 refine⟨?_,hlt,fun h0=>⟨hlt,?_⟩,fun h0=>?_⟩
 ·rw[←h1.1,a0i hlt]
 ·rw[h1.2,if_pos h0]
 ·refine List.take_of_length_le ?_
  have h2:=h1.2
  rw[if_neg h0]at h2
  simpa using h2
theorem StAt.last {c:List Kind} {l:List Evt} {i:Nat} {st:List Part} (h:StAt c l i st) (hi:l.length≤i):(a1u c [] l).take i=a1u c [] l:=by
 have h1:=h.rest
 rw[List.drop_eq_nil_of_le hi]at h1
 exact List.take_of_length_le (by simpa[a1u]using h1)
theorem SmF.nil:SmF []:=fun _ h=>by cases h
theorem b2b {α:Type} {nm:α→ByteArray} {l:List α} {x y:α} (h:y∈a5u nm l x):y=x∨y∈l:=by
 unfold a5u at h
 split at h
 ·rcases List.mem_or_eq_of_mem_set h with h|h
  ·exact .inr h
  ·exact .inl h
 ·rcases List.mem_append.1 h with h|h
  ·exact .inr (List.mem_of_mem_take h)
  ·rcases List.mem_cons.1 h with h|h
   ·exact .inl h
   ·exact .inr (List.mem_of_mem_drop h)
theorem b2c {l:List Part} {p:Part} (h:SmF l) (hp:SmP p):SmF (b6h l p).1:=fun q hq=>by
 rcases b2b (show q∈a5u Part.name l p from hq) with rfl|hq
 ·exact hp
 ·exact h q hq
theorem a6J {c:List Kind} {l:List Part} {e:Evt} (h:SmF l) (he:SmE e):SmF (a0q c l e).1:=by
 have hz:SmP zPart:=⟨(by show (0:Nat)≤_;omega),fun q hq=>by simp[zPart]at hq⟩
 have hp:SmP (a1Z l e):=by
  unfold a1Z
  cases hf:a0E l e.part with
  |none=>exact hz
  |some p=>exact h p (b1B hf)
 have hn:SmP (a2x e (a1Z l e)):=⟨hp.1,fun q hq=>by
  rcases b2b (show q∈a5u Prp.key (a1Z l e).props ⟨e.key,e.value⟩ from hq) with rfl|hq
  ·exact he.2.2.2.2.1
  ·exact hp.2 q hq⟩
 have hnew:SmP (c2R e):=⟨he.1,fun q hq=>by simp[c2R]at hq⟩
 have hfail:∀k,SmF (a6j k).1:=fun k=>SmF.nil
 unfold a0q
 split
 ·exact hfail 1
 ·split
  ·unfold a2n
   repeat' split
   all_goals first
    |exact hfail _
    |exact b2c h hnew
  ·unfold a0u
   split
   ·exact hfail _
   ·split
    ·exact hfail _
    ·unfold a1b a0V a0x a0W a0P a0C
     repeat' split
     all_goals first
      |exact hfail _
      |exact b2c h hp
      |exact b2c h hn
      |exact b2c h ⟨hp.1,hp.2⟩
end Go.Sx
set_option linter.all false
namespace Go.Sx
open Go
theorem c5S {l:List Evt} {n:Int} (h:c2o l n=true):(∀e∈l,SmE e)∧((l.length:Nat):Int)≤n:=by
 simp only[c2o,Bool.and_eq_true,decide_eq_true_eq]at h
 refine⟨fun e he=>?_,h.2⟩;obtain⟨_,h1⟩:=a3X h.1 he
 simp only[a5S,Bool.and_eq_true,decide_eq_true_eq]at h1
 refine⟨?_,?_,?_,?_,?_,?_⟩<;>unfold Sm<;>omega
theorem c5R {c:List Kind} (h:c2n c=true):SmC c:=by
 simp only[c2n,Bool.and_eq_true,Bool.not_eq_true',decide_eq_false_iff_not]at h
 intro k hk;obtain⟨_,h1⟩:=a3X h.2 hk
 simp only[a3P,Bool.and_eq_true,Bool.not_eq_true',Bool.or_eq_false_iff,decide_eq_false_iff_not]at h1
 refine⟨by unfold Sm;omega,fun s hs=>?_⟩;obtain⟨_,h2⟩:=a3X h1.2 hs
 simp only[a4X,Bool.and_eq_true,Bool.not_eq_true',Bool.or_eq_false_iff,decide_eq_false_iff_not]at h2
 refine⟨by unfold Sm;omega,fun q hq=>?_⟩;obtain⟨_,h3⟩:=a3X h2.2 hq
 simp only[Bool.not_eq_true',decide_eq_false_iff_not]at h3
 unfold Sm;omega
end Go.Sx
set_option linter.all false
namespace Go.Sx
open Go
section
variable {α:Type} [Day α]
theorem c3I {l m:List α} (hs:b2D m) (h:∀d:Int,m.filter (fun e=>decide (Day.day e=d))=l.filter (fun e=>decide (Day.day e=d))):a0U l=m:=
 b4V _ _ (a3J l) hs fun d=>by rw[a2u,h]
theorem b7T (l:List α) (p:α→Bool) (h:∀x∈l,∀y∈l,p x=true→p y=false→Day.day x≤Day.day y) (hd:∀x∈l,∀y∈l,Day.day x=Day.day y→p x=p y) :
  a0U l=a0U (l.filter p)++a0U (l.filter fun x=>!p x):=by
 refine c3I ?_ fun d=>?_
 ·rw[b2D,List.pairwise_append];refine⟨a3J _,a3J _,fun x hx y hy=>?_⟩;rw[a4k,List.mem_filter]at hx hy
  exact h x hx.1 y hy.1 hx.2 (by simpa using hy.2)
 ·rw[List.filter_append,a2u,a2u,List.filter_filter,List.filter_filter]
  by_cases hp:∃x∈l,Day.day x=d∧p x=true
  ·obtain⟨x,hx,hxd,hxp⟩:=hp
   have e1:l.filter (fun a=>decide (Day.day a=d)&&p a)=l.filter fun a=>decide (Day.day a=d):=by
    apply List.filter_congr
    intro y hy
    by_cases hyd:Day.day y=d
    ·simp[hyd,←hd x hx y hy (by omega),hxp]
    ·simp[hyd]
   have e2:l.filter (fun a=>decide (Day.day a=d) && !p a)=[]:=by
    rw[List.filter_eq_nil_iff];intro y hy
    by_cases hyd:Day.day y=d
    ·simp[←hd x hx y hy (by omega),hxp]
    ·simp[hyd]
   rw[e1,e2,List.append_nil]
  ·have e1:l.filter (fun a=>decide (Day.day a=d)&&p a)=[]:=by
    rw[List.filter_eq_nil_iff];intro y hy hc
    simp only[Bool.and_eq_true,decide_eq_true_eq]at hc
    exact hp ⟨y,hy,hc.1,hc.2⟩
   have e2:l.filter (fun a=>decide (Day.day a=d) && !p a)=l.filter fun a=>decide (Day.day a=d):=by
    apply List.filter_congr
    intro y hy
    by_cases hyd:Day.day y=d
    ·have:p y=false:=by
      cases h:p y
      ·rfl
      ·exact absurd ⟨y,hy,hyd,h⟩ hp
     simp[hyd,this]
    ·simp[hyd]
   rw[e1,e2,List.nil_append]
def Beg (s:List α) (a:Nat):Prop:=∀j x y,j<a→s[j]? = some x→s[a]? = some y→Day.day x<Day.day y
theorem Beg.zero (s:List α):Beg s 0:=fun j x y h=>absurd h (Nat.not_lt_zero j)
end
theorem c6Z {c:List Kind} (hc:a1g c=true) (l:List Evt):a7U c l=a5H c [] 0 (a0U l):=by unfold a7U;rw[if_neg (by simp[hc])]
def upD (l:List Evt) (day:Int):List Evt:=l.filter fun e=>!decide (e.day>day)
def laD (l:List Evt) (day:Int):List Evt:=l.filter fun e=>decide (e.day>day)
theorem c3O (l:List Evt) (day:Int):a0U l=a0U (upD l day)++a0U (laD l day):=by
 have h:=b7T l (fun e=>!decide (e.day>day)) (fun x _ y _ hx hy=>by
  simp only[Bool.not_eq_true',decide_eq_false_iff_not,Bool.not_eq_false',decide_eq_true_eq]at hx hy
  show x.day≤y.day;omega) (fun x _ y _ h=>by
  have:x.day=y.day:=h
  simp only[this])
 rw[h,upD,laD]
 congr 2
 apply List.filter_congr
 intro x _
 simp
theorem c9Y (c:List Kind) (l:List Evt) (day:Int):a6K c l day=a7U c (upD l day):=rfl
theorem a4h (s:ByteArray):a2k s=a2e s:=by
  rw[Bool.eq_iff_iff]
  simp only[a2k,a2e,Bool.and_eq_true,Bool.not_eq_true',decide_eq_false_iff_not,decide_eq_true_eq,a7v,a8b,List.all_eq_true,List.mem_range,a3n,a7a,Bool.or_eq_true]
  have he:s=⟨#[]⟩↔s.size=0:=by
    constructor
    · rintro rfl;rfl
    · intro h
      cases s with|mk d=>congr 1;exact Array.eq_empty_of_size_eq_zero h
  constructor
  · rintro⟨h1,h2,h3⟩
    have hp : 0 < s.size := by rcases Nat.eq_zero_or_pos s.size with h | h; · exact absurd (he.2 h) h2
                               · exact h
    refine⟨fun i hi=>?_,⟨by omega,h3⟩,?_⟩
    · rcases h1 i hi with h|⟨_,h|h⟩
      · exact .inl (.inl h)
      · exact .inl (.inr h)
      · exact .inr h
    · rcases h1 0 hp with h|⟨h,_⟩
      · exact h
      · exact absurd rfl h
  · rintro⟨h1,⟨h2,h3⟩,h4⟩
    refine⟨fun i hi=>?_,fun h=>by have:=he.1 h;omega,h3⟩
    by_cases h0:i=0
    · subst h0;exact .inl h4
    · rcases h1 i hi with (h|h)|h
      · exact .inl h
      · exact .inr ⟨h0,.inl h⟩
      · exact .inr ⟨h0,.inr h⟩
theorem c8u (ks:List ByteArray) (n:ByteArray):hit id ks n=decide (n∈ks):=by
 rw[a9p,Bool.eq_iff_iff,List.any_eq_true,decide_eq_true_eq]
 constructor
 ·rintro⟨x,hx,he⟩;obtain rfl:x=n:=by simpa using he
  exact hx
 ·intro h;exact⟨n,h,by simp⟩
theorem c6a {α:Type} (nm:α→ByteArray) (l:List α) (s:ByteArray):hit nm l s=decide (s∈l.map nm):=by
 rw[a9p,Bool.eq_iff_iff,List.any_eq_true,decide_eq_true_eq,List.mem_map]
 constructor
 ·rintro⟨x,hx,he⟩;exact⟨x,hx,by simpa using he⟩
 ·rintro⟨x,hx,he⟩;exact⟨x,hx,by simp[he]⟩
theorem b4r (pre:List Kind) (ks:List ByteArray) (n:ByteArray):a7c pre ks n=a5z pre ks n:=by
 unfold a7c a5z;rw[c8u]
 have h:c5Z Kind.name (fun k=>!k.vehicle) pre n=((a2y pre n).isSome && !((a2y pre n).getD a4M).vehicle):=by
  unfold c5Z a2y
  cases pre.find? fun k=>decide (k.name=n)<;>rfl
 rw[h]
 cases decide (n∈ks)<;>cases (a2y pre n).isSome<;>cases ((a2y pre n).getD a4M).vehicle<;>rfl
theorem b2n (pre:List Kind) (sl:List Slot) (s:Slot):a3I pre sl s=a4i pre sl s:=by
 unfold a3I a4i b4S;rw[c6a,a4h,show a7c pre=a5z pre from funext fun ks=>funext fun n=>b4r pre ks n]
 cases decide (s.name∈sl.map Slot.name)<;>cases a2e s.name<;>cases decide (s.normal<1)<;>cases decide ((s.kinds.length:Int)<s.normal)<;>cases a3h (a5z pre) s.kinds s.kinds.length<;>rfl
theorem b1K (pre:List Kind) (k:Kind):a2W pre k=a3k pre k:=by
 unfold a2W a3k;rw[a4h,show a3I pre=a4i pre from funext fun sl=>funext fun s=>b2n pre sl s]
 rfl
theorem a3W (c:List Kind):a1g c=a6q c:=by
 unfold a1g a6q;rw[show a2W=a3k from funext fun pre=>funext fun k=>b1K pre k,Bool.and_comm]
 congr 1
 rw[Bool.eq_iff_iff]
 simp
end Go.Sx
set_option linter.all false
namespace Go.Sx
open Go
section
variable {α:Type} {nm:α→ByteArray}
def Inc (nm:α→ByteArray) (l:List α):Prop:=l.Pairwise fun x y=>sLt (nm x) (nm y)=true
theorem b5w {l:List α} (h:Srt nm l):Inc nm l:=by
 rw[Inc,List.pairwise_iff_getElem];exact fun i j hi hj hij=>h i j hj hij
structure Cut (nm:α→ByteArray) (s:ByteArray) (a b:List α):Prop where
 lo:∀y∈a,sLt (nm y) s=true
 hi:∀y∈b,sLt s (nm y)=true
theorem b2K (l:List α) (s:ByteArray) (h:Inc nm l):(∃a b,l=a++b∧Cut nm s a b)∨∃a y b,l=a++y::b∧nm y=s∧Cut nm s a b:=by
 induction l with
 |nil=>exact .inl ⟨[],[],rfl,fun _ h=>(by cases h),fun _ h=>(by cases h)⟩
 |cons x r ih=>
  have h':=List.pairwise_cons.1 h
  cases hx:sLt (nm x) s with
  |true=>
   rcases ih h'.2 with ⟨a,b,rfl,hc⟩|⟨a,y,b,rfl,hy,hc⟩
   ·exact .inl ⟨x::a,b,rfl,fun y hy=>by rcases List.mem_cons.1 hy with rfl|hy;exact hx;exact hc.lo y hy,hc.hi⟩
   ·exact .inr ⟨x::a,y,b,rfl,hy,fun y hy=>by rcases List.mem_cons.1 hy with rfl|hy;exact hx;exact hc.lo y hy,hc.hi⟩
  |false=>
   by_cases he:nm x=s
   ·subst he;exact .inr ⟨[],x,r,rfl,rfl,fun _ h=>(by cases h),fun y hy=>h'.1 y hy⟩
   ·have hs:sLt s (nm x)=true:=by
     cases hs:sLt s (nm x) with
     |true=>rfl
     |false=>exact absurd (b2j hx hs) he
    exact .inl ⟨[],x::r,rfl,fun _ h=>(by cases h),fun y hy=>by
     rcases List.mem_cons.1 hy with rfl|hy
     ·exact hs
     ·exact a2A hs (h'.1 y hy)⟩
theorem c0n {a b:List α} {s:ByteArray} (hc:Cut nm s a b):a7t nm (a++b) s=a.length:=by
 refine b6f (by simp) (fun q x hq hx=>?_) fun q x hq hx=>?_
 ·rw[List.getElem?_append_left hq]at hx
  exact hc.lo x (List.mem_of_getElem? hx)
 ·rw[List.getElem?_append_right hq]at hx
  exact a9M (hc.hi x (List.mem_of_getElem? hx))
theorem b6e {a b:List α} {y:α} {s:ByteArray} (hc:Cut nm s a b) (hy:nm y=s):a7t nm (a++y::b) s=a.length:=by
 refine b6f (by simp) (fun q x hq hx=>?_) fun q x hq hx=>?_
 ·rw[List.getElem?_append_left hq]at hx
  exact hc.lo x (List.mem_of_getElem? hx)
 ·rw[List.getElem?_append_right hq]at hx
  rcases List.mem_cons.1 (List.mem_of_getElem? hx) with rfl|hx
  ·rw[hy];exact a1r s
  ·exact a9M (hc.hi x hx)
theorem b8r {a b:List α} {s:ByteArray} (hc:Cut nm s a b):atF nm (a++b) s=false:=by
 unfold atF;rw[c0n hc]
 cases b with
 |nil=>simp
 |cons y r=>
  rw[List.getElem?_append_right (Nat.le_refl _),Nat.sub_self]
  simp only[List.getElem?_cons_zero,decide_eq_false_iff_not]
  rintro rfl
  have:=hc.hi y (by simp)
  rw[a1r]at this;cases this
theorem b3W {a b:List α} {y:α} {s:ByteArray} (hc:Cut nm s a b) (hy:nm y=s):atF nm (a++y::b) s=true:=by
 unfold atF;rw[b6e hc hy,List.getElem?_append_right (Nat.le_refl _),Nat.sub_self]
 simp[hy]
theorem b2d {a b:List α} {x:α} (hc:Cut nm (nm x) a b):a5u nm (a++b) x=a++x::b:=by
 unfold a5u;rw[b8r hc,c0n hc,if_neg (by decide)]
 simp
theorem a8N {a b:List α} {x y:α} (hc:Cut nm (nm x) a b) (hy:nm y=nm x):a5u nm (a++y::b) x=a++x::b:=by
 unfold a5u;rw[b3W hc hy,b6e hc hy,if_pos rfl]
 simp
theorem b9u {a b:List α} {x:α} (ha:Inc nm a) (hb:Inc nm b) (hc:Cut nm (nm x) a b):Inc nm (a++x::b):=by
 rw[Inc,List.pairwise_append,List.pairwise_cons]
 exact⟨ha,⟨hc.hi,hb⟩,fun y hy z hz=>by
  rcases List.mem_cons.1 hz with rfl|hz
  ·exact hc.lo y hy
  ·exact a2A (hc.lo y hy) (hc.hi z hz)⟩
theorem a4G {l:List α} (x:α) (h:Inc nm l):Inc nm (a5u nm l x):=by
 rcases b2K l (nm x) h with ⟨a,b,rfl,hc⟩|⟨a,y,b,rfl,hy,hc⟩
 ·rw[b2d hc];rw[Inc,List.pairwise_append]at h
  exact b9u h.1 h.2.1 hc
 ·rw[a8N hc hy];rw[Inc,List.pairwise_append,List.pairwise_cons]at h
  exact b9u h.1 h.2.1.2 hc
theorem a8e {a b:List α} {s:ByteArray} (hc:Cut nm s a b) {y:α} (hy:y∈a∨y∈b):nm y≠s:=by
 rintro rfl
 rcases hy with hy|hy
 ·have:=hc.lo y hy;rw[a1r]at this;cases this
 ·have:=hc.hi y hy;rw[a1r]at this;cases this
theorem a3s {l:List α} {x z:α} (h:Inc nm l):z∈a5u nm l x↔z=x∨(z∈l∧nm z≠nm x):=by
 rcases b2K l (nm x) h with ⟨a,b,rfl,hc⟩|⟨a,y,b,rfl,hy,hc⟩
 ·rw[b2d hc]
  simp only[List.mem_append,List.mem_cons]
  constructor
  ·rintro (h|h|h)
   ·exact .inr ⟨.inl h,a8e hc (.inl h)⟩
   ·exact .inl h
   ·exact .inr ⟨.inr h,a8e hc (.inr h)⟩
  ·rintro (h|⟨h|h,_⟩)
   ·exact .inr (.inl h)
   ·exact .inl h
   ·exact .inr (.inr h)
 ·rw[a8N hc hy]
  simp only[List.mem_append,List.mem_cons]
  constructor
  ·rintro (h|h|h)
   ·exact .inr ⟨.inl h,a8e hc (.inl h)⟩
   ·exact .inl h
   ·exact .inr ⟨.inr (.inr h),a8e hc (.inr h)⟩
  ·rintro (h|⟨h|h|h,hn⟩)
   ·exact .inr (.inl h)
   ·exact .inl h
   ·subst h;exact absurd hy hn
   ·exact .inr (.inr h)
theorem b5x {l:List α} (h:Inc nm l) {x y:α} (hx:x∈l) (hy:y∈l) (he:nm x=nm y):x=y:=by
 obtain⟨i,hi,rfl⟩:=List.getElem_of_mem hx;obtain⟨j,hj,rfl⟩:=List.getElem_of_mem hy;rw[Inc,List.pairwise_iff_getElem]at h
 rcases Nat.lt_trichotomy i j with hij|rfl|hij
 ·have:=h i j hi hj hij;rw[he,a1r]at this;cases this
 ·rfl
 ·have:=h j i hj hi hij;rw[he,a1r]at this;cases this
theorem b9t:∀{l m:List α},Inc nm l→Inc nm m→(∀x,x∈l↔x∈m)→l=m
 | [],[],_,_,_=>rfl
 | [],y::m,_,_,h=>by have:=(h y).2 (by simp);cases this
 |x::l,[],_,_,h=>by have:=(h x).1 (by simp);cases this
 |x::l,y::m,h1,h2,h=>by
  have h1':=List.pairwise_cons.1 h1
  have h2':=List.pairwise_cons.1 h2
  have hxy:x=y:=by
   rcases List.mem_cons.1 ((h x).1 (by simp)) with e|hx
   ·exact e
   ·rcases List.mem_cons.1 ((h y).2 (by simp)) with e|hy
    ·exact e.symm
    ·have a:=h2'.1 x hx
     have b:=h1'.1 y hy
     have:=a2A a b
     rw[a1r]at this;cases this
  subst hxy
  congr 1
  refine b9t h1'.2 h2'.2 fun z=>?_
  have hz:=h z
  simp only[List.mem_cons]at hz
  constructor
  ·intro hzl
   rcases hz.1 (.inr hzl) with rfl|hm
   ·have:=h1'.1 z hzl;rw[a1r]at this;cases this
   ·exact hm
  ·intro hzm
   rcases hz.2 (.inr hzm) with rfl|hm
   ·have:=h2'.1 z hzm;rw[a1r]at this;cases this
   ·exact hm
theorem put_comm {l:List α} {x y:α} (h:Inc nm l) (hn:nm x≠nm y):a5u nm (a5u nm l x) y=a5u nm (a5u nm l y) x:=by
 refine b9t (a4G y (a4G x h)) (a4G x (a4G y h)) fun z=>?_
 rw[a3s (a4G x h),a3s h,a3s (a4G y h),a3s h]
 constructor
 ·rintro (rfl|⟨rfl|⟨h1,h2⟩,h3⟩)
  ·exact .inr ⟨.inl rfl,fun e=>hn e.symm⟩
  ·exact .inl rfl
  ·exact .inr ⟨.inr ⟨h1,h3⟩,h2⟩
 ·rintro (rfl|⟨rfl|⟨h1,h2⟩,h3⟩)
  ·exact .inr ⟨.inl rfl,hn⟩
  ·exact .inl rfl
  ·exact .inr ⟨.inr ⟨h1,h3⟩,h2⟩
theorem a9G {l:List α} {x:α} (h:Inc nm l):(a5u nm l x).length=if atF nm l (nm x)=true then l.length else l.length+1:=by
 rcases b2K l (nm x) h with ⟨a,b,rfl,hc⟩|⟨a,y,b,rfl,hy,hc⟩
 ·rw[b2d hc,b8r hc];simp;omega
 ·rw[a8N hc hy,b3W hc hy];simp
theorem b5r {l:List α} (h:Inc nm l) {x:α} (hx:x∈l):l.find? (fun y=>decide (nm y=nm x))=some x:=by
 cases hf:l.find? fun y=>decide (nm y=nm x) with
 |none=>
  rw[List.find?_eq_none]at hf
  have:=hf x hx
  simp at this
 |some y=>
  have h1:=List.mem_of_find?_eq_some hf
  have h2:=List.find?_some hf
  rw[b5x h h1 hx (by simpa using h2)]
theorem a1s {l:List α} (h:Inc nm l) {s:ByteArray} {x:α}:l.find? (fun y=>decide (nm y=s))=some x↔x∈l∧nm x=s:=by
 constructor
 ·intro hf;exact⟨List.mem_of_find?_eq_some hf,by simpa using List.find?_some hf⟩
 ·rintro⟨hx,rfl⟩;exact b5r h hx
theorem a9j {l:List α} {s:ByteArray}:l.find? (fun y=>decide (nm y=s))=none↔∀x∈l,nm x≠s:=by
 rw[List.find?_eq_none];simp
theorem b6i {l:List α} {x:α} (h:Inc nm l) (s:ByteArray):(a5u nm l x).find? (fun y=>decide (nm y=s))=if nm x=s then some x else l.find? fun y=>decide (nm y=s):=by
 have h1:=a4G x h
 split
 ·rename_i e;subst e;exact b5r h1 ((a3s h).2 (.inl rfl))
 ·rename_i e
  cases hf:l.find? fun y=>decide (nm y=s) with
  |none=>
   rw[a9j]at hf ⊢
   intro z hz
   rcases (a3s h).1 hz with rfl|⟨hz,_⟩
   ·exact e
   ·exact hf z hz
  |some y=>
   rw[a1s h]at hf
   rw[a1s h1];exact⟨(a3s h).2 (.inr ⟨hf.1,fun e'=>e (e'.symm.trans hf.2)⟩),hf.2⟩
theorem b1k {l:List α} (h:Inc nm l) (s:ByteArray):atF nm l s=(l.find? fun y=>decide (nm y=s)).isSome:=by
 rcases b2K l s h with ⟨a,b,rfl,hc⟩|⟨a,y,b,rfl,hy,hc⟩
 ·rw[b8r hc]
  have:(a++b).find? (fun y=>decide (nm y=s))=none:=a9j.2 fun x hx=>a8e hc (List.mem_append.1 hx)
  rw[this];rfl
 ·rw[b3W hc hy]
  have:(a++y::b).find? (fun y=>decide (nm y=s))=some y:=(a1s h).2 ⟨by simp,hy⟩
  rw[this];rfl
end
end Go.Sx
set_option linter.all false
namespace Go.Sx
open Go
theorem b5g {α:Type} {f g:List α→α→Bool} (l:List α) (n:Nat):a3h (fun p x=>f p x&&g p x) l n=(a3h f l n&&a3h g l n):=by
 rw[Bool.eq_iff_iff,Bool.and_eq_true]
 simp only[a3h,List.all_eq_true,List.mem_range]
 constructor
 ·intro h;refine⟨fun i hi=>?_,fun i hi=>?_⟩ <;>
  ·have:=h i hi
   revert this
   cases l[i]? with
   |none=>simp
   |some x=>intro h;simp_all
 ·rintro⟨h1,h2⟩ i hi
  have h3:=h1 i hi
  have h4:=h2 i hi
  revert h3 h4
  cases l[i]? with
  |none=>simp
  |some x=>intro h3 h4;simp_all
theorem c6X {h:Option Nat→Option Obj} {v:Value} {t:TypeId} {k n:Nat} {xs:List Value} (hr:IsRow h v t k n xs):v.oneCell'=true:=by
 obtain⟨_,⟨rfl,_⟩|⟨g,cap,cur,rfl,_⟩⟩:=hr<;>rfl
theorem c0H {v:Value} (h:v.oneCell'=true):([v]:List Value).all (·.oneCell')=true:=by simp[h]
theorem a5B {n:Sz} {E:Ent} {I:IMap} {L:LL} {H:List Res} {K:Act→World→Prop} {v:Value} {t k m:Nat} {xs:List Value} (h:v.oneCell'=true→SX n E I L (.row v t k m xs::H) K):SX n E I L (.row v t k m xs::H) K:=
 b4Y (p:=v.oneCell'=true) (fun w mm=>c6X (mm.holds (.row v t k m xs) (List.mem_cons_self ..))) h
def c1K (i:Ivl):Bool:=(decide (0≤i.low)&&decide (i.low≤i.high))&&decide (i.high≤1000000)
theorem c6e (i:Ivl):c1K i=b0j i:=by
 unfold c1K b0j;rw[Bool.eq_iff_iff];simp
def c5d (u:Use):Bool:=(c1K u.km&&c1K u.cycles)&&c1K u.load
theorem c1o (u:Use):c5d u=b0n u 3:=by
 simp only[c5d,b0n,c6e]
 simp[List.range_succ,b3K,Bool.and_assoc]
def b6R (e:Evt):Evt:=⟨e.op,e.day,e.part,a0Z,a0Z,a0Z,a0Z,a0Z,c7K⟩
def a7b (e:Evt):Evt:=
 if e.op=1 then { b6R e with kind:=e.kind } else if e.op=2 then { b6R e with into:=e.into,slot:=e.slot } else if e.op=4 then { b6R e with use:=e.use } else if e.op=6 then { b6R e with key:=e.key,value:=e.value } else b6R e
def a7D (e:Evt):Bool:=
 if e.op=1 then a2e e.kind else if e.op=2 then (a2e e.into&&a2e e.slot) && !decide (e.into=e.part) else if e.op=4 then c5d e.use else if e.op=6 then (a2e e.key&&decide ((1:Int)≤(e.value.size:Nat)))&&decide (((e.value.size:Nat):Int)≤200) else true
def a6P (e:Evt):Bool:=(((decide (e.op<1)||decide (7<e.op))||decide (e.day<0))||decide (40000<e.day)) || !a2e e.part
def a9U (e:Evt):Bool:=!a6P e&&(a7D e&&decide (a7b e=e))
theorem b6y {s:ByteArray}:s=a0Z↔s.size=0:=by
 constructor
 ·rintro rfl;rfl
 ·intro h
  cases s with|mk d=>congr 1;exact Array.eq_empty_of_size_eq_zero h
theorem c8G (s:ByteArray):decide (((s.size:Nat):Int)<1)=decide (s=a0Z):=by
 rw[decide_eq_decide,b6y];omega
theorem c8N (s:ByteArray):decide ((1:Int)≤(s.size:Nat)) = !decide (s=a0Z):=by
 rw[←decide_not,decide_eq_decide,b6y];omega
theorem c4M (a b:Int):decide (a≤b) = !decide (b<a):=by
 rw[←decide_not,decide_eq_decide];omega
theorem b8S (e:Evt):a6P e=a8s e:=by
 unfold a6P a8s;rw[a4h]
 congr 3
 rw[Bool.eq_iff_iff,Bool.or_eq_true,decide_eq_true_eq,decide_eq_true_eq,decide_eq_true_eq,a8o]
 omega
theorem b9x (e:Evt):decide (a7b e=e)=decide (a5P e=c9O):=by
 rw[decide_eq_decide];unfold a7b a5P b6R c9O;obtain⟨op,day,part,kind,into,slot,key,value,use⟩:=e
 by_cases h1:op=1
 ·subst h1;simp[eq_comm]
 by_cases h2:op=2
 ·subst h2;simp[eq_comm]
 by_cases h4:op=4
 ·subst h4;simp[eq_comm]
 by_cases h6:op=6
 ·subst h6;simp[eq_comm]
 ·simp[h1,h2,h4,h6,eq_comm]
theorem c5W (e:Evt):a7D e=(!a5G e && !((a1X e).any fun s=>!a2k s)):=by
 unfold a7D a5G a1X
 by_cases h1:e.op=1
 ·simp[h1,a4h]
 by_cases h2:e.op=2
 ·simp[h2,a4h,Bool.and_comm]
 by_cases h4:e.op=4
 ·simp[h4,c1o]
 by_cases h6:e.op=6
 ·rw[if_neg h1,if_neg h2,if_neg h4,if_pos h6,if_neg h2,if_pos h6,if_neg h1,if_neg h2,if_pos h6,c8N,c4M]
  simp only[List.any_cons,List.any_nil,a4h]
  cases a2e e.key<;>cases decide (e.value=a0Z)<;>cases decide ((200:Int)<(e.value.size:Nat))<;>rfl
 ·simp[h1,h2,h4,h6]
theorem a7Z (e:Evt):a9U e=a1t e:=by
 unfold a9U a1t;rw[b8S,c5W,b9x]
 cases a8s e<;>cases a5G e<;>cases decide (a5P e=c9O)<;>cases (a1X e).any fun s=>!a2k s<;>rfl
def a4u {α:Type} (nm:α→ByteArray) (pre:List α) (x:α):Bool:=match pre.getLast? with|some y=>!sLt (nm y) (nm x)|none=>false
theorem a9x {α:Type} (nm:α→ByteArray) (pre:List α) (x:α):a4u nm pre x = !a4N nm pre x:=by
 unfold a4u a4N;cases pre.getLast? <;> simp
theorem a2w {α:Type} {nm:α→ByteArray} {l:List α} {i:Nat} (h0:0<i) (hi:i<l.length):a4u nm (l.take i) l[i] = !sLt (nm (l[i-1]'(by omega))) (nm l[i]):=by
 have:(l.take i).getLast? = some (l[i-1]'(by omega)):=by
  rw[List.getLast?_eq_getElem?,List.length_take,Nat.min_eq_left (by omega),List.getElem?_take,if_pos (by omega),List.getElem?_eq_getElem]
 simp only[a4u,this]
theorem a1S {α:Type} {nm:α→ByteArray} {l:List α} {i:Nat} (h0:¬0<i) (x:α):a4u nm (l.take i) x=false:=by
 obtain rfl:i=0:=by omega
 simp[a4u]
def b2a (pre:List Prp) (q:Prp):Bool:=!(((!a2e q.key||decide (((q.value.size:Nat):Int)<1))||decide ((200:Int)<(q.value.size:Nat)))||a4u Prp.key pre q)
theorem c3i (pre:List Prp) (q:Prp):b2a pre q=(a4U q&&a4N Prp.key pre q):=by
 unfold b2a a4U;rw[a9x,a4h];rw[c8G,c4M]
 cases a2e q.key<;>cases decide (q.value=a0Z)<;>cases decide ((200:Int)<(q.value.size:Nat))<;>cases a4N Prp.key pre q<;>rfl
def a4Z (c:List Kind) (p:Part):Bool:=((((!(a2y c p.kind).isSome || !a2e p.name)||decide (p.made<0))||decide (p.since<p.made))||decide (40000<p.since))||decide ((60:Int)<(p.props.length:Nat))
def c4P (c:List Kind) (p:Part):Bool:=!a4Z c p&&(a3h b2a p.props p.props.length&&((a2o p.life.km&&a2o p.life.cycles)&&a2o p.life.damage))
theorem a2C (c:List Kind) (p:Part):c4P c p=a3G c p:=by
 unfold c4P a3G;rw[show a4Z c p=a3E c p by unfold a4Z a3E;rw[a4h],show b2a=(fun pre q=>a4U q&&a4N Prp.key pre q) from funext fun pre=>funext fun q=>c3i pre q,b5g]
 simp only[b7C]
 cases a3E c p<;>cases a3h (fun _ q=>a4U q) p.props p.props.length<;>cases a3h (a4N Prp.key) p.props p.props.length<;>simp
def a7x (p x:Part):Bool:=decide (x.into=p.into)&&decide (x.slot=p.slot)
def a6r (c:List Kind) (pre:List Part) (p:Part):Bool:=(!c4P c p||a4u Part.name pre p) || !(decide (p.into=a0Z) == decide (p.slot=a0Z))
def a8Z (c:List Kind) (st:List Part) (p:Part):Bool:=((!(a0E st p.into).isSome||p.scrapped)||((a0E st p.into).getD zPart).scrapped) || !a4l c ((a0E st p.into).getD zPart).kind p.slot p.kind
def a6k (c:List Kind) (st pre:List Part) (p:Part):Bool:=!a6r c pre p&&(decide (p.into=a0Z)||(!a8Z c st p && !pre.any (a7x p)))
def a6D (c:List Kind) (st:List Part):Bool:=!(!a6q c||decide ((20000:Int)<(st.length:Nat)))&&a3h (a6k c st) st st.length
theorem b9r (p:Part) (h:¬p.into=a0Z) (pre:List Part):hit a2r (a2N pre) (a2r p)=pre.any (a7x p):=by
 rw[a9p,Bool.eq_iff_iff,List.any_eq_true,List.any_eq_true]
 constructor
 ·rintro⟨x,hx,he⟩;rw[a2N,List.mem_filter]at hx
  refine⟨x,hx.1,?_⟩
  simp only[a2r,Prod.mk.injEq,decide_eq_true_eq]at he
  simp[a7x,he.1,he.2]
 ·rintro⟨x,hx,he⟩
  simp only[a7x,Bool.and_eq_true,decide_eq_true_eq]at he
  refine⟨x,?_,by simp[a2r,he.1,he.2]⟩;rw[a2N,List.mem_filter];exact⟨hx,by simp[he.1,h]⟩
theorem c2Z (c:List Kind) (st pre:List Part) (p:Part):a6k c st pre p=(a4N Part.name pre p&&a2F c st pre p):=by
 unfold a6k a2F a6r b2F;rw[a9x,a2C]
 by_cases h:p.into=a0Z
 ·simp only[h,decide_true]
  cases a3G c p<;>cases a4N Part.name pre p<;>cases decide (p.slot=a0Z)<;>rfl
 ·simp only[a8Z,a8Y,b9r p h,decide_eq_false h]
  cases a3G c p<;>cases a4N Part.name pre p<;>cases decide (p.slot=a0Z)<;>cases (a0E st p.into).isSome<;>cases p.scrapped<;>cases ((a0E st p.into).getD zPart).scrapped<;>cases pre.any (a7x p)<;>cases a4l c ((a0E st p.into).getD zPart).kind p.slot p.kind<;>rfl
theorem a5p (c:List Kind) (st:List Part):a6D c st=a2T c st:=by
 unfold a6D a2T b2E;rw[a3W,show a6k c st=(fun pre p=>a4N Part.name pre p&&a2F c st pre p) from funext fun pre=>funext fun p=>c2Z c st pre p,b5g]
 simp only[b7C]
 cases a6q c<;>cases decide ((20000:Int)<(st.length:Nat))<;>cases a3h (a4N Part.name) st st.length<;>rfl
section
variable {α:Type} (nm:α→ByteArray) (x:α)
def a5F (s:List α×Bool) (y:α):List α×Bool:=if (!s.2 && !sLt (nm y) (nm x))=true then (s.1++[x],true) else s
def a4P (s:List α×Bool) (y:α):List α×Bool:=if nm y=nm x then a5F nm x s y else ((a5F nm x s y).1++[y],(a5F nm x s y).2)
def wF (l:List α):List α×Bool:=l.foldl (a4P nm x) ([],false)
def b2y (l:List α):List α:=if (wF nm x l).2=true then (wF nm x l).1 else (wF nm x l).1++[x]
variable {nm x}
theorem b2x {l:List α} {i:Nat} (hi:i<l.length):wF nm x (l.take (i+1))=a4P nm x (wF nm x (l.take i)) l[i]:=by
 rw[←a0i hi,wF,List.foldl_append];rfl
theorem c9I (l:List α):(wF nm x l).1.length≤l.length+if (wF nm x l).2=true then 1 else 0:=by
 suffices ∀(l:List α) (s:List α×Bool),(l.foldl (a4P nm x) s).1.length+(if s.2=true then 1 else 0)≤s.1.length+l.length+if (l.foldl (a4P nm x) s).2=true then 1 else 0 by
  have:=this l ([],false)
  unfold wF
  simp only[Bool.false_eq_true,if_false,List.length_nil,Nat.zero_add,Nat.add_zero]at this
  exact this
 intro l
 induction l with
 |nil=>intro s;rw[List.foldl_nil,List.length_nil];omega
 |cons y r ih=>
  intro s
  have h:=ih (a4P nm x s y)
  rw[List.foldl_cons];obtain⟨s1,s2⟩:=s
  have h2:(a4P nm x (s1,s2) y).1.length+(if s2=true then 1 else 0)≤s1.length+1+(if (a4P nm x (s1,s2) y).2=true then 1 else 0):=by
   unfold a4P a5F
   by_cases he:nm y=nm x
   ·cases s2<;>cases sLt (nm y) (nm x)<;>simp[he]
   ·cases s2<;>cases sLt (nm y) (nm x)<;>simp[he]
  simp only[List.length_cons]
  show _+(if s2=true then 1 else 0)≤s1.length+_+_
  omega
theorem c5i {b:List α} (p:List α) (h:∀y∈b,nm y≠nm x):b.foldl (a4P nm x) (p,true)=(p++b,true):=by
 induction b generalizing p with
 |nil=>simp
 |cons y r ih=>
  rw[List.foldl_cons]
  have:a4P nm x (p,true) y=(p++[y],true):=by simp[a4P,a5F,h y (by simp)]
  rw[this,ih _ (fun z hz=>h z (by simp[hz]))]
  simp
theorem d0Q {p a:List α} (h:∀y∈a,sLt (nm y) (nm x)=true):a.foldl (a4P nm x) (p,false)=(p++a,false):=by
 induction a generalizing p with
 |nil=>simp
 |cons y r ih=>
  rw[List.foldl_cons]
  have h1:=h y (by simp)
  have hn:nm y≠nm x:=by intro e;rw[e,a1r]at h1;cases h1
  have:a4P nm x (p,false) y=(p++[y],false):=by simp[a4P,a5F,h1,hn]
  rw[this,ih (fun z hz=>h z (by simp[hz]))]
  simp
theorem b2z {l:List α} (h:Inc nm l):b2y nm x l=a5u nm l x:=by
 rcases b2K l (nm x) h with ⟨a,b,rfl,hc⟩|⟨a,y,b,rfl,hy,hc⟩
 ·rw[b2d hc]
  have h1:wF nm x (a++b)=if b=[] then (a,false) else (a++x::b,true):=by
   rw[wF,List.foldl_append,d0Q hc.lo]
   cases b with
   |nil=>simp
   |cons y r=>
    have h2:=hc.hi y (by simp)
    have hn:nm y≠nm x:=a8e hc (.inr (by simp))
    rw[List.foldl_cons]
    have:a4P nm x ([]++a,false) y=(a++[x]++[y],true):=by simp[a4P,a5F,a9M h2,hn]
    rw[this,c5i (nm:=nm) (x:=x) (b:=r) _ (fun z hz=>a8e hc (.inr (by simp[hz])))]
    simp
  unfold b2y;rw[h1]
  by_cases hb:b=[]
  ·subst hb;simp
  ·simp[hb]
 ·rw[a8N hc hy]
  have h1:wF nm x (a++y::b)=(a++x::b,true):=by
   rw[wF,List.foldl_append,d0Q hc.lo,List.foldl_cons]
   have:a4P nm x ([]++a,false) y=(a++[x],true):=by simp[a4P,a5F,hy,a1r]
   rw[this,c5i (nm:=nm) (x:=x) (b:=b) _ (fun z hz=>a8e hc (.inr hz))]
   simp
  unfold b2y;rw[h1];simp
end
theorem c3D {l:List Part} {p:Part} {m i:Nat} (hq:∀j x,j<m→l[j]? = some x→a7x p x=false) (hi:i≤m):(l.take i).any (a7x p)=false:=by
 rw[List.any_eq_false];intro x hx;obtain⟨j,hj,rfl⟩:=List.getElem_of_mem hx;rw[List.length_take]at hj
 rw[List.getElem_take]
 simpa using hq j _ (by omega) (List.getElem?_eq_getElem (by omega))
theorem c3E {l:List Part} {p:Part} {m i:Nat} (hm:m<i) (hl:m<l.length) (h:a7x p l[m]=true):(l.take i).any (a7x p)=true:=by
 rw[List.any_eq_true];exact⟨l[m],List.mem_iff_getElem.2 ⟨m,by rw[List.length_take];omega,List.getElem_take⟩,h⟩
section
variable {α:Type} {nm:α→ByteArray} {x:α} {l:List α} {i:Nat} {out:List α} {b:Bool}
theorem c7D (hi:i<l.length) (hw:wF nm x (l.take i)=(out,b)) (h1:(!b)=true) (h2:(!sLt (nm l[i]) (nm x))=true) (h3:(!decide (nm l[i]=nm x))=true):wF nm x (l.take (i+1))=(out++[x]++[l[i]],true):=by
 have h4:¬nm l[i]=nm x:=by simpa using h3
 rw[b2x hi,hw,a4P,if_neg h4];simp only[a5F,h1,h2,Bool.and_self,if_true]
theorem c9J (hi:i<l.length) (hw:wF nm x (l.take i)=(out,b)) (h1:(!b)=true) (h2:(!sLt (nm l[i]) (nm x))=true) (h3:(!decide (nm l[i]=nm x))=false):wF nm x (l.take (i+1))=(out++[x],true):=by
 have h4:nm l[i]=nm x:=by simpa using h3
 rw[b2x hi,hw,a4P,if_pos h4];simp only[a5F,h1,h2,Bool.and_self,if_true]
theorem b8b (hi:i<l.length) (hw:wF nm x (l.take i)=(out,b)) (h1:(!b && !sLt (nm l[i]) (nm x))=false) (h3:(!decide (nm l[i]=nm x))=true):wF nm x (l.take (i+1))=(out++[l[i]],b):=by
 have h4:¬nm l[i]=nm x:=by simpa using h3
 rw[b2x hi,hw,a4P,if_neg h4];simp only[a5F,h1,Bool.false_eq_true,if_false]
theorem c4f (hi:i<l.length) (hw:wF nm x (l.take i)=(out,b)) (h1:(!b && !sLt (nm l[i]) (nm x))=false) (h3:(!decide (nm l[i]=nm x))=false):wF nm x (l.take (i+1))=(out,b):=by
 have h4:nm l[i]=nm x:=by simpa using h3
 rw[b2x hi,hw,a4P,if_pos h4];simp only[a5F,h1,Bool.false_eq_true,if_false]
theorem d0P (hw:wF nm x (l.take i)=(out,b)):out.length≤i+1:=by
 have h:=c9I (nm:=nm) (x:=x) (l.take i)
 rw[hw,List.length_take]at h
 dsimp only at h;split at h<;>omega
theorem c5l (hw:wF nm x l=(out,b)) (h:(!b)=true):b2y nm x l=out++[x]:=by
 have:b=false:=by simpa using h
 simp[b2y,hw,this]
theorem c5k (hw:wF nm x l=(out,b)) (h:(!b)=false):b2y nm x l=out:=by
 have:b=true:=by simpa using h
 simp[b2y,hw,this]
theorem c1T {p:α→Bool} (h:∀j x,j<l.length→l[j]? = some x→p x=false):l.any p=false:=by
 rw[List.any_eq_false];intro y hy;obtain⟨j,hj,rfl⟩:=List.getElem_of_mem hy
 simpa using h j _ hj (List.getElem?_eq_getElem hj)
theorem b7d {f:α→Bool} (hi:i<l.length) (h:f l[i]=true):(l.take (i+1)).filter f=(l.take i).filter f++[l[i]]:=by
 rw[←a0i hi,List.filter_append];simp[h]
theorem b9a {f:α→Bool} (hi:i<l.length) (h:f l[i]=false):(l.take (i+1)).filter f=(l.take i).filter f:=by
 rw[←a0i hi,List.filter_append];simp[h]
end
def b3f (e:Evt):ByteArray:=if e.op=2 then e.into else e.part
theorem a9B (st:List Part) (e:Evt):a2q st e=a0E st (b3f e):=by unfold a2q b3f;split<;>rfl
def b9n (st:List Part) (into slot:ByteArray):Bool:=st.any fun x=>decide (x.into=into)&&(decide (slot=a0Z)||decide (x.slot=slot))
theorem c2A (st:List Part) (s:ByteArray):b9n st s a0Z=a1l st s:=by simp[b9n,a1l]
theorem b9o (st:List Part) (e:Evt) (h:e.slot≠a0Z):b9n st e.into e.slot=a1e st e:=by simp[b9n,a1e,h]
theorem c2v {e:Evt} (h:a1t e=true) (h2:e.op=2):e.slot≠a0Z:=by
 intro he
 simp[a1t,a1X,h2,he]at h
 have:a2k a0Z=false:=by decide
 rw[this]at h;simp at h
theorem a5y {st:List Part} {s:ByteArray}:decide (0≤a5f (fun p:Part=>decide (p.name=s)) st)=(a0E st s).isSome:=by
 rw[a6a,a0E,Bool.eq_iff_iff,List.any_eq_true,List.find?_isSome]
theorem a8Q {c:List Kind} {st:List Part} {l:List Evt} {i:Nat} (hi:i<l.length) {z:Int}:a5H c st z (l.drop i)=if (a0q c st l[i]).2=0 then a5H c (a0q c st l[i]).1 (z+1) (l.drop (i+1)) else ([],z,(a0q c st l[i]).2):=by
 rw[List.drop_eq_getElem_cons hi];rfl
theorem b9w {α:Type} [Day α] {l:List α} {e:α} {k:Nat} (hk:k≤(a0U l).length) (h1:∀j y,k≤j→(a0U l)[j]? = some y→Day.day y>Day.day e)
  (h2:k=0∨∃y,(a0U l)[k-1]? = some y∧Day.day y≤Day.day e):(a0U l).take k++e::(a0U l).drop k=a0U (l++[e]):=by
 have hs:=a3J l
 have hd:∀y∈(a0U l).drop k,Day.day e<Day.day y:=by
  intro y hy;obtain⟨j,hj,rfl⟩:=List.getElem_of_mem hy;rw[List.getElem_drop];exact h1 (k+j) _ (by omega) (List.getElem?_eq_getElem _)
 have ht:∀y∈(a0U l).take k,Day.day y≤Day.day e:=by
  intro y hy
  rcases h2 with rfl|⟨z,hz,hze⟩
  ·simp at hy
  ·obtain⟨j,hj,rfl⟩:=List.getElem_of_mem hy;rw[List.length_take]at hj
   rw[List.getElem_take];obtain⟨hk1,rfl⟩:=List.getElem?_eq_some_iff.1 hz;rw[b2D,List.pairwise_iff_getElem]at hs
   rcases Nat.lt_or_ge j (k-1) with hlt|hge
   ·exact Int.le_trans (hs j (k-1) (by omega) hk1 hlt) hze
   ·obtain rfl:j=k-1:=by omega
    exact hze
 refine b4V _ _ ?_ (a3J _) fun d=>?_
 ·unfold b2D at hs ⊢
  rw[←List.take_append_drop k (a0U l),List.pairwise_append]at hs
  rw[List.pairwise_append,List.pairwise_cons];refine⟨hs.1,⟨fun y hy=>Int.le_of_lt (hd y hy),hs.2.1⟩,fun y hy z hz=>?_⟩
  rcases List.mem_cons.1 hz with rfl|hz
  ·exact ht y hy
  ·exact Int.le_trans (ht y hy) (Int.le_of_lt (hd z hz))
 ·rw[a2u,List.filter_append,List.filter_append,←a2u d l,List.filter_cons]
  conv=>rhs;rw[←List.take_append_drop k (a0U l),List.filter_append]
  by_cases he:Day.day e=d
  ·have:((a0U l).drop k).filter (fun e=>decide (Day.day e=d))=[]:=by
    rw[List.filter_eq_nil_iff];intro y hy
    have:=hd y hy
    simp;omega
   rw[this];simp[he]
  ·simp[he]
end Go.Sx
set_option linter.all false
namespace Go.Sx
open Go
structure Rep where
 options:List Evt
 doubtful:Bool
 deriving DecidableEq
def Rep.cells (r:Rep) (s:Value):List Value:=[s,.bool r.doubtful]
instance:Enc Rep where
 k:=2
 rd I vs x:=∃s,vs=x.cells s∧RdS I s x.options
 len h:=by obtain⟨ks,rfl,_⟩:=h;rfl
 mono hI h:=by obtain⟨ks,rfl,h⟩:=h;exact⟨ks,rfl,h.le hI⟩
 one h:=by obtain⟨ks,rfl,h⟩:=h;obtain⟨A,c,rfl,_⟩:=h;rfl
instance:Enc UInt8 where
 k:=1
 rd _ vs x:=vs=[.int .u8 x.toNat]
 len h:=by rw[h];rfl
 mono _ h:=h
 one h:=by rw[h];rfl
structure Pkd where
 e:Evt
 rep:Int
 lo:0≤e.day
 hi:e.day≤40000
def Pkd.cells (p:Pkd):List Value:=p.e.cells++[ci p.rep]
instance:Enc Pkd where
 k:=15
 rd _ vs x:=vs=x.cells
 len h:=by rw[h];rfl
 mono _ h:=h
 one h:=by rw[h];rfl
instance:Day Pkd:=⟨fun p=>p.e.day,Pkd.cells,15,fun _=>rfl⟩
def a4F (pre:List Evt) (e:Evt):Bool:=!(hit id pre e || !a1t e)
def a0w (r:Rep):Bool:=!(decide (((r.options.length:Nat):Int)=0)||decide ((4:Int)<(r.options.length:Nat)))&&a3h a4F r.options r.options.length
def chs (r:Rep):Int:=if a0w r=false then 0 else if r.doubtful=true then ((r.options.length:Nat):Int)+1 else ((r.options.length:Nat):Int)
theorem a3a {r:Rep} (h:a0w r=true):∀e∈r.options,a1t e=true:=by
 intro e he
 simp only[a0w,Bool.and_eq_true]at h
 obtain⟨pre,h1⟩:=a3X h.2 he
 simp only[a4F,Bool.not_eq_true',Bool.or_eq_false_iff,Bool.not_eq_false']at h1
 exact h1.2
theorem a8a {e:Evt} (h:a1t e=true):0≤e.day∧e.day≤40000:=by
 simp only[a1t,Bool.and_eq_true,Bool.not_eq_true']at h
 have h1:=h.1.1.1
 simp only[a8s,Bool.or_eq_false_iff,decide_eq_false_iff_not]at h1
 omega
def at2 {β:Type} (f:Rep→Int→β) (l:List Rep) (ch:List Int) (i:Nat):Option β:=match l[i]?,ch[i]? with|some r,some k=>some (f r k)|_,_=>none
theorem a2K {β:Type} {f:Rep→Int→β} {l:List Rep} {ch:List Int} {i:Nat} (h1:i<l.length) (h2:i<ch.length):at2 f l ch i=some (f l[i] ch[i]):=by
 simp[at2,h1,h2]
def a6F (f:Rep→Int→Bool) (l:List Rep) (ch:List Int) (n:Nat):Bool:=(List.range n).all fun i=>(at2 f l ch i).getD true
theorem a5V {f:Rep→Int→Bool} {l:List Rep} {ch:List Int} {i:Nat} (h:a6F f l ch i=true) (h1:i<l.length) (h2:i<ch.length) (hf:f l[i] ch[i]=true):a6F f l ch (i+1)=true:=
 a6H h (by simp[a2K h1 h2,hf])
theorem a6G {f:Rep→Int→Bool} {l:List Rep} {ch:List Int} {i n:Nat} (hn:i<n) (h1:i<l.length) (h2:i<ch.length) (hf:f l[i] ch[i]=false):a6F f l ch n=false:=
 a8V (p:=fun i=>(at2 f l ch i).getD true) hn (by simp[a2K h1 h2,hf])
theorem b1f {f:Rep→Int→Bool} {l:List Rep} {ch:List Int} {n i:Nat} (h:a6F f l ch n=true) (hi:i<n) (h1:i<l.length) (h2:i<ch.length):f l[i] ch[i]=true:=by
 rw[a6F,List.all_eq_true]at h
 have:=h i (List.mem_range.2 hi)
 simpa[a2K h1 h2]using this
def a8c (least:Int) (r:Rep) (k:Int):Bool:=!((decide (chs r=0)||decide (k<least))||decide (chs r≤k))
def a1E (c:List Kind) (l:List Rep) (ch:List Int) (least:Int):Bool:=!(!a1g c || !decide (((ch.length:Nat):Int)=(l.length:Nat)))&&a6F (a8c least) l ch l.length
def a3L (day:Int) (r:Rep) (k:Int):Option Evt:=if 0≤k then (match r.options[k.toNat]? with|some e=>if e.day<day then some e else none|none=>none) else none
def pkd (day:Int) (l:List Rep) (ch:List Int) (i:Nat):Option Pkd:=match (at2 (a3L day) l ch i).join with
 |some e=>if h:0≤e.day∧e.day≤40000 then some ⟨e,i,h.1,h.2⟩ else none
 |none=>none
def a3f (day:Int) (l:List Rep) (ch:List Int) (n:Nat):List Pkd:=(List.range n).filterMap (pkd day l ch)
theorem a5l (day:Int) (l:List Rep) (ch:List Int) (i:Nat):a3f day l ch (i+1)=a3f day l ch i++(pkd day l ch i).toList:=by
 rw[a3f,List.range_succ,List.filterMap_append,a3f]
 congr 1
def a3m (c:List Kind):List Part→List Pkd→Int×Int
 |_,[]=>(-1,0)
 |st,p::r=>if (a0q c st p.e).2=0 then a3m c (a0q c st p.e).1 r else (p.rep,(a0q c st p.e).2)
def a4z (c:List Kind) (l:List Rep) (ch:List Int) (day:Int):Int×Int:=a3m c [] (a0U (a3f day l ch l.length))
def a8f (c:List Kind) (l:List Rep) (ch:List Int):Int×Int:=if a1E c l ch 0=false then (-1,1) else a4z c l ch 40001
def isF (c:List Kind) (l:List Rep) (ch:List Int):Bool:=decide ((a8f c l ch).2=0)
def a1A (l:List Rep) (ch:List Int) (n:Nat):List Int:=(List.range n).flatMap fun i=>(at2 (fun r k=>if k<0 then r.options.map Evt.day else []) l ch i).getD []
def a5g (l:List Int):Int:=l.foldl (fun a d=>if d<a then d else a) 40001
def a6T (c:List Kind) (l:List Rep) (ch:List Int):Bool:=if a1E c l ch (-1)=false then false else !decide ((a4z c l ch (a5g (a1A l ch l.length))).2=0)
end Go.Sx
set_option linter.all false
namespace Go.Sx
open Go
def d0H (r:Rep):Prop:=∀e∈r.options,OkE e
section
variable {P:Program} {t:TypeId}
theorem c0a {tb tk:TypeId} (hf:a2v P t=some [(tk,0,1),(tb,1,1)]) (hc:P.cellsOf t=2) (hk:a3M P tk (List Evt) (fun l=>∀x∈l,OkE x)) (hb:a3M P tb Bool (fun _=>True)):a3M P t Rep d0H:=by
 intro H enc w base spare held fuel cs x h;obtain⟨hl,hall⟩:=a3t hf h;rw[hc]at hl
 obtain⟨a0,r0_,rfl,l0_⟩:=a1h hl;obtain⟨a1,r1_,rfl,l1_⟩:=a1h l0_;obtain rfl:=a7H l1_;obtain⟨n0,y0,h0⟩:=hall (tk,0,1) (by simp);obtain⟨x0,e0,g0⟩:=hk enc w base spare held n0 _ y0 h0;obtain⟨v0,e0,r0⟩:=e0
 have e0:[a0]=[v0]:=e0
 cases e0
 obtain⟨n1,y1,h1⟩:=hall (tb,1,1) (by simp);obtain⟨x1,e1,g1⟩:=hb enc w base spare held n1 _ y1 h1
 have e1:[a1]=[.bool x1]:=e1
 cases e1
 exact⟨⟨x0,x1⟩,⟨_,rfl,r0⟩,g0⟩
end
end Go.Sx
set_option linter.all false
namespace Go.Sx
open Go
structure HN (n:Nat) (g:Prop):Prop where
 out:g
theorem HN.z {s:Prop} (h:HN 0 s):s:=h.out
theorem HN.p {s:Prop} {n:Nat} (h:HN (n+1) s):HN n s:=⟨h.out⟩
class Has {α:Type} (a:Option α) (b:outParam α):Prop where
 eq:a=some b
theorem he {α:Type} {a:Option α} {b:α} [h:Has a b]:a=some b:=h.eq
theorem sb {L L':LL} (h:Sub L' L:=by repeat (first|exact trivial|refine⟨rfl,?_⟩)):Sub L' L:=h
section
variable {P:Program} {ρ:Option Nat} {n:Sz} {E:Ent} {I I':IMap} {L L':LL} {H H':List Res} {K K':Act→World→Prop} {Q:Exit→Act→World→Prop} {ops:Array Oper}
theorem cb {c:Operand} {x y:Code} {b:Bool} {p q:Prop} (hc:ev L c=some (.bool b)) (ht:b=true→p→SX n E I L H (x.wq ρ P Q)) (hf:b=false→q→SX n E I L H (y.wq ρ P Q))
  (e1:b=true→p:=by first|(intro h;simp only[bO]at h;exact h)|exact fun h=>h) (e2:b=false→q:=by first|(intro h;simp only[bO]at h;exact h)|exact fun h=>h) :
  SX n E I L H ((Code.cond c x y).wq ρ P Q):=c8d hc (fun h=>ht h (e1 h)) (fun h=>hf h (e2 h))
theorem sxb {v:Bool} {p q:Prop} (t:Nat) (h:look L t=some (.bool v)) (h1:v=true→p→SX n E I L H K) (h2:v=false→q→SX n E I L H K)
  (e1:v=true→p:=by first|(intro h;simp only[bO]at h;exact h)|exact fun h=>h) (e2:v=false→q:=by first|(intro h;simp only[bO]at h;exact h)|exact fun h=>h):SX n E I L H K:=c3Y t h (fun h=>h1 h (e1 h)) (fun h=>h2 h (e2 h))
variable {d ty:Nat} {pos:String} {af:Array Edge} {x y z:Operand} {tt tx tyy q:Nat} {v:Value}
theorem c6F (h:OV P n E I L H ⟨some d,.move x,ty,pos,af,none⟩ v):OV P n E I L H ⟨some d,.move x,ty,pos,af,none⟩ v:=h
theorem c0p (h:OV P n E I L H ⟨some d,.assign x,ty,pos,af,none⟩ v):OV P n E I L H ⟨some d,.assign x,ty,pos,af,none⟩ v:=h
theorem b3l (h:OV P n E I L H ⟨some d,.fieldAddr tt x q,ty,pos,af,none⟩ v):OV P n E I L H ⟨some d,.fieldAddr tt x q,ty,pos,af,none⟩ v:=h
theorem c6E (h:OV P n E I L H ⟨some d,.load tt x,ty,pos,af,none⟩ v):OV P n E I L H ⟨some d,.load tt x,ty,pos,af,none⟩ v:=h
theorem c3h (h:OV P n E I L H ⟨some d,.field tt x q,ty,pos,af,none⟩ v):OV P n E I L H ⟨some d,.field tt x q,ty,pos,af,none⟩ v:=h
theorem b7H (h:OV P n E I L H ⟨some d,.extract x q,ty,pos,af,none⟩ v):OV P n E I L H ⟨some d,.extract x q,ty,pos,af,none⟩ v:=h
theorem c9i (h:OV P n E I L H ⟨some d,.unOp .not tt x,ty,pos,af,none⟩ v):OV P n E I L H ⟨some d,.unOp .not tt x,ty,pos,af,none⟩ v:=h
theorem c9h (h:OV P n E I L H ⟨some d,.nilCheck x,ty,pos,af,none⟩ v):OV P n E I L H ⟨some d,.nilCheck x,ty,pos,af,none⟩ v:=h
theorem c6G (h:OV P n E I L H ⟨some d,.pick x y z,ty,pos,af,none⟩ v):OV P n E I L H ⟨some d,.pick x y z,ty,pos,af,none⟩ v:=h
theorem c9f (h:OV P n E I L H ⟨some d,.binOp .lss tx x y tyy,ty,pos,af,none⟩ v):OV P n E I L H ⟨some d,.binOp .lss tx x y tyy,ty,pos,af,none⟩ v:=h
theorem c9e (h:OV P n E I L H ⟨some d,.binOp .leq tx x y tyy,ty,pos,af,none⟩ v):OV P n E I L H ⟨some d,.binOp .leq tx x y tyy,ty,pos,af,none⟩ v:=h
theorem c9c (h:OV P n E I L H ⟨some d,.binOp .gtr tx x y tyy,ty,pos,af,none⟩ v):OV P n E I L H ⟨some d,.binOp .gtr tx x y tyy,ty,pos,af,none⟩ v:=h
theorem c9b (h:OV P n E I L H ⟨some d,.binOp .geq tx x y tyy,ty,pos,af,none⟩ v):OV P n E I L H ⟨some d,.binOp .geq tx x y tyy,ty,pos,af,none⟩ v:=h
theorem c9a (h:OV P n E I L H ⟨some d,.binOp .eql tx x y tyy,ty,pos,af,none⟩ v):OV P n E I L H ⟨some d,.binOp .eql tx x y tyy,ty,pos,af,none⟩ v:=h
theorem c9g (h:OV P n E I L H ⟨some d,.binOp .neq tx x y tyy,ty,pos,af,none⟩ v):OV P n E I L H ⟨some d,.binOp .neq tx x y tyy,ty,pos,af,none⟩ v:=h
theorem c8Z (h:OV P n E I L H ⟨some d,.binOp .add tx x y tyy,ty,pos,af,none⟩ v):OV P n E I L H ⟨some d,.binOp .add tx x y tyy,ty,pos,af,none⟩ v:=h
theorem c9j (h:OV P n E I L H ⟨some d,.binOp .sub tx x y tyy,ty,pos,af,none⟩ v):OV P n E I L H ⟨some d,.binOp .sub tx x y tyy,ty,pos,af,none⟩ v:=h
theorem c9d (h:OV P n E I L H ⟨some d,.call { callee:=.builtin .len,args:=#[x],argTypes:=#[tx] },ty,pos,af,none⟩ v):OV P n E I L H ⟨some d,.call { callee:=.builtin .len,args:=#[x],argTypes:=#[tx] },ty,pos,af,none⟩ v:=h
theorem va {o:Oper} (h:OV P n E I L H o v:=by
  first
   |((with_unfolding_none refine' c6F ?_);rotate_left;exact a0a rfl)
   |((with_unfolding_none refine' c0p ?_);rotate_left;exact a0Y rfl)
   |((with_unfolding_none refine' b3l ?_);rotate_left;exact a0g he rfl)
   |((with_unfolding_none refine' c6E ?_);rotate_left;(first|exact a2H m0 he rfl rfl|exact a2H m1 he rfl rfl|exact a2H m2 he rfl rfl|exact a2H m3 he rfl rfl|exact a2H m4 he rfl rfl|exact a2H m5 he rfl rfl|exact a2H m6 he rfl rfl|exact a3U m0 he rfl rfl|exact a3U m1 he rfl rfl|exact a3U m2 he rfl rfl|exact a3U m3 he rfl rfl|exact a3U m4 he rfl rfl|exact a3U m5 he rfl rfl|exact a3U m6 he rfl rfl))
   |((with_unfolding_none refine' c6G ?_);rotate_left;(first|exact a3K rfl rfl|exact a2s rfl rfl|exact a3g rfl rfl rfl|exact a3b rfl rfl rfl|exact a3K (by assumption) rfl|exact a2s (by assumption) rfl|exact a3g (by assumption) rfl rfl|exact a3b (by assumption) rfl rfl))
   |((with_unfolding_none refine' c9f ?_);rotate_left;(first|exact a5o rfl rfl|exact c1w rfl rfl))
   |((with_unfolding_none refine' c9d ?_);rotate_left;(first|exact a3V he rfl|exact a9S he rfl))
   |((with_unfolding_none refine' b7H ?_);rotate_left;exact a1C rfl rfl)
   |((with_unfolding_none refine' c9i ?_);rotate_left;exact a8x rfl)
   |((with_unfolding_none refine' c9a ?_);rotate_left;(first|exact b3L rfl rfl|exact a5E rfl rfl))
   |((with_unfolding_none refine' c9g ?_);rotate_left;(first|exact c9C rfl rfl|exact b1a rfl rfl))
   |((with_unfolding_none refine' c9e ?_);rotate_left;(first|exact c7y rfl rfl|exact c9E rfl rfl))
   |((with_unfolding_none refine' c9c ?_);rotate_left;(first|exact a9R rfl rfl|exact c9D rfl rfl))
   |((with_unfolding_none refine' c9b ?_);rotate_left;(first|exact b8a rfl rfl|exact b0Z rfl rfl))
   |((with_unfolding_none refine' c8Z ?_);rotate_left;exact a2d rfl rfl ⟨by omega,by omega⟩)
   |((with_unfolding_none refine' c9j ?_);rotate_left;exact a1m rfl rfl ⟨by omega,by omega⟩)
   |((with_unfolding_none refine' c9h ?_);rotate_left;exact a3x rfl)
   |((with_unfolding_none refine' c3h ?_);rotate_left;(first|exact c7x he rfl rfl|exact c4d _ he rfl rfl))):OV P n E I L H o v:=h
theorem d0Y {rest:List Oper} {op:Op} {v:Value} (hd:Nat.blt d n.sz=true) (h:OV P n E I L H ⟨some d,op,ty,pos,af,none⟩ v) (k:SX n E I ((d,v)::L) H (wpL P ops Q rest)):SX n E I L H (wpL P ops Q (⟨some d,op,ty,pos,af,none⟩::rest)):=o_v hd h k
theorem d0Z {rest:List Oper} {op:Op} {j:Nat} {b:Bool} {v:Value} {t:Nat} {c:Bool} (ht:(ops[j]?).bind (·.dst)=some t) (hb:look L t=some (.bool c)) (hv:c=b) (hd:Nat.blt d n.sz=true) (h:OV P n E I L H ⟨some d,op,ty,pos,af,none⟩ v) (k:SX n E I ((d,v)::L) H (wpL P ops Q rest)):SX n E I L H (wpL P ops Q (⟨some d,op,ty,pos,af,some (j,b)⟩::rest)):=a1d (a0R ht hb hv (a0t hd h k))
theorem d0V {rest:List Oper} {op:Op} {j:Nat} {b:Bool} {t:Nat} {c:Bool} (ht:(ops[j]?).bind (·.dst)=some t) (hb:look L t=some (.bool c)) (hv:c = !b) (hd:Nat.blt d n.sz=true) (k:SX n E I ((d,undef)::L) H (wpL P ops Q rest)):SX n E I L H (wpL P ops Q (⟨some d,op,ty,pos,af,some (j,b)⟩::rest)):=a1d (d0W ht hb hv hd k)
theorem d0q {rest:List Oper} {op:Op} {j:Nat} {b:Bool} {t:Nat} {c:Bool} (ht:(ops[j]?).bind (·.dst)=some t) (hb:look L t=some (.bool c)) (hv:c = !b) (k:SX n E I L H (wpL P ops Q rest)):SX n E I L H (wpL P ops Q (⟨none,op,ty,pos,af,some (j,b)⟩::rest)):=a1d (d0s ht hb hv k)
theorem d0X {rest:List Oper} {op:Op} {j:Nat} {b:Bool} {t:Nat} (ht:(ops[j]?).bind (·.dst)=some t) (hb:look L t=some undef) (hd:Nat.blt d n.sz=true) (k:SX n E I ((d,undef)::L) H (wpL P ops Q rest)):SX n E I L H (wpL P ops Q (⟨some d,op,ty,pos,af,some (j,b)⟩::rest)):=a1d (d0t ht hb hd k)
theorem go {g s:Prop} (n:Nat) (hs:s) (h:HN n s→g:=by
  intro h
  repeat (first
   |exact HN.z h
   |replace h:=HN.p h;first
    |((with_unfolding_none refine' d0Y ?_ ?_ ?_);rotate_left;exact rfl;exact va)
    |with_unfolding_none refine c9m ?_
    |with_unfolding_none refine d0r ?_
    |with_unfolding_none refine d0c ?_
    |with_unfolding_none refine c1V ?_
    |with_unfolding_none refine c8f ?_
    |with_unfolding_none refine b7K ?_
    |with_unfolding_none refine d0b ?_
    |with_unfolding_none refine c5v ?_
    |with_unfolding_none refine c6I ?_
    |with_unfolding_none refine b4G ?_
    |with_unfolding_none refine b4F ?_
    |with_unfolding_none refine c8e ?_
    |with_unfolding_none refine b7I ?_
    |((with_unfolding_none refine' d0V ?_ ?_ ?_ ?_ ?_);rotate_left 2;exact rfl;exact rfl;(first|exact rfl|assumption);exact rfl)
    |((with_unfolding_none refine' d0X ?_ ?_ ?_ ?_);rotate_left;exact rfl;exact rfl;exact rfl)
    |((with_unfolding_none refine' d0q ?_ ?_ ?_ ?_);rotate_left 2;exact rfl;exact rfl;(first|exact rfl|assumption))
    |((with_unfolding_none refine' d0Z ?_ ?_ ?_ ?_ ?_ ?_);rotate_left 3;exact rfl;exact rfl;(first|exact rfl|assumption);exact rfl;exact va)
    |((with_unfolding_none refine b7J ?_ ?_);exact rfl)
    |with_unfolding_none refine a1d ?_)):g:=h ⟨hs⟩
end
end Go.Sx
namespace Go.Proofs.YtdapmfkbpnjkmaaGreat
open Go Go.Sx
set_option linter.all false
set_option maxRecDepth 20000
set_option maxHeartbeats 4000000
instance T.arr_265:Has (c4z Tryz.prog 265) (256,5,1):=⟨by kernel_rfl⟩
instance T.elt_33:Has (a8r Tryz.prog 33) (9,1):=⟨by kernel_rfl⟩
instance T.ty_265:Has (tyK Tryz.prog 265) (true,256):=⟨by kernel_rfl⟩
instance T.ty_5:Has (tyK Tryz.prog 5) (false,1):=⟨by kernel_rfl⟩
instance T.ty_9:Has (tyK Tryz.prog 9) (false,1):=⟨by kernel_rfl⟩
instance T.und_3:Has (Tryz.prog.underlying 3) (.int .i64):=⟨by kernel_rfl⟩
instance T.und_33:Has (Tryz.prog.underlying 33) (.slice 9):=⟨by kernel_rfl⟩
instance T.und_5:Has (Tryz.prog.underlying 5) (.int .u8):=⟨by kernel_rfl⟩
instance T.und_9:Has (Tryz.prog.underlying 9) (.string):=⟨by kernel_rfl⟩
instance T.zero_265:Has (a2t Tryz.prog 265) [.int .u8 0,.int .u8 0,.int .u8 0,.int .u8 0,.int .u8 0,.int .u8 0,.int .u8 0,.int .u8 0,.int .u8 0,.int .u8 0,.int .u8 0,.int .u8 0,.int .u8 0,.int .u8 0,.int .u8 0,.int .u8 0,.int .u8 0,.int .u8 0,.int .u8 0,.int .u8 0,.int .u8 0,.int .u8 0,.int .u8 0,.int .u8 0,.int .u8 0,.int .u8 0,.int .u8 0,.int .u8 0,.int .u8 0,.int .u8 0,.int .u8 0,.int .u8 0,.int .u8 0,.int .u8 0,.int .u8 0,.int .u8 0,.int .u8 0,.int .u8 0,.int .u8 0,.int .u8 0,.int .u8 0,.int .u8 0,.int .u8 0,.int .u8 0,.int .u8 0,.int .u8 0,.int .u8 0,.int .u8 0,.int .u8 0,.int .u8 0,.int .u8 0,.int .u8 0,.int .u8 0,.int .u8 0,.int .u8 0,.int .u8 0,.int .u8 0,.int .u8 0,.int .u8 0,.int .u8 0,.int .u8 0,.int .u8 0,.int .u8 0,.int .u8 0,.int .u8 0,.int .u8 0,.int .u8 0,.int .u8 0,.int .u8 0,.int .u8 0,.int .u8 0,.int .u8 0,.int .u8 0,.int .u8 0,.int .u8 0,.int .u8 0,.int .u8 0,.int .u8 0,.int .u8 0,.int .u8 0,.int .u8 0,.int .u8 0,.int .u8 0,.int .u8 0,.int .u8 0,.int .u8 0,.int .u8 0,.int .u8 0,.int .u8 0,.int .u8 0,.int .u8 0,.int .u8 0,.int .u8 0,.int .u8 0,.int .u8 0,.int .u8 0,.int .u8 0,.int .u8 0,.int .u8 0,.int .u8 0,.int .u8 0,.int .u8 0,.int .u8 0,.int .u8 0,.int .u8 0,.int .u8 0,.int .u8 0,.int .u8 0,.int .u8 0,.int .u8 0,.int .u8 0,.int .u8 0,.int .u8 0,.int .u8 0,.int .u8 0,.int .u8 0,.int .u8 0,.int .u8 0,.int .u8 0,.int .u8 0,.int .u8 0,.int .u8 0,.int .u8 0,.int .u8 0,.int .u8 0,.int .u8 0,.int .u8 0,.int .u8 0,.int .u8 0,.int .u8 0,.int .u8 0,.int .u8 0,.int .u8 0,.int .u8 0,.int .u8 0,.int .u8 0,.int .u8 0,.int .u8 0,.int .u8 0,.int .u8 0,.int .u8 0,.int .u8 0,.int .u8 0,.int .u8 0,.int .u8 0,.int .u8 0,.int .u8 0,.int .u8 0,.int .u8 0,.int .u8 0,.int .u8 0,.int .u8 0,.int .u8 0,.int .u8 0,.int .u8 0,.int .u8 0,.int .u8 0,.int .u8 0,.int .u8 0,.int .u8 0,.int .u8 0,.int .u8 0,.int .u8 0,.int .u8 0,.int .u8 0,.int .u8 0,.int .u8 0,.int .u8 0,.int .u8 0,.int .u8 0,.int .u8 0,.int .u8 0,.int .u8 0,.int .u8 0,.int .u8 0,.int .u8 0,.int .u8 0,.int .u8 0,.int .u8 0,.int .u8 0,.int .u8 0,.int .u8 0,.int .u8 0,.int .u8 0,.int .u8 0,.int .u8 0,.int .u8 0,.int .u8 0,.int .u8 0,.int .u8 0,.int .u8 0,.int .u8 0,.int .u8 0,.int .u8 0,.int .u8 0,.int .u8 0,.int .u8 0,.int .u8 0,.int .u8 0,.int .u8 0,.int .u8 0,.int .u8 0,.int .u8 0,.int .u8 0,.int .u8 0,.int .u8 0,.int .u8 0,.int .u8 0,.int .u8 0,.int .u8 0,.int .u8 0,.int .u8 0,.int .u8 0,.int .u8 0,.int .u8 0,.int .u8 0,.int .u8 0,.int .u8 0,.int .u8 0,.int .u8 0,.int .u8 0,.int .u8 0,.int .u8 0,.int .u8 0,.int .u8 0,.int .u8 0,.int .u8 0,.int .u8 0,.int .u8 0,.int .u8 0,.int .u8 0,.int .u8 0,.int .u8 0,.int .u8 0,.int .u8 0,.int .u8 0,.int .u8 0,.int .u8 0,.int .u8 0,.int .u8 0,.int .u8 0,.int .u8 0,.int .u8 0,.int .u8 0,.int .u8 0,.int .u8 0,.int .u8 0,.int .u8 0,.int .u8 0,.int .u8 0,.int .u8 0,.int .u8 0,.int .u8 0,.int .u8 0,.int .u8 0,.int .u8 0]:=⟨by kernel_rfl⟩
theorem b5N (I:IMap) (c:UInt8) :
    FnV Tryz.prog 230 #[.int .u8 (c.toNat:Int)] I (.bool (a3C c)):=by
 refine enter Tryz.func230 Tryz.call230 rfl Tryz.ntmps230 rfl (fun w0=>?_);refine go 10 ?_;refine sxb 5 rfl (fun h5 p5=>?_) (fun h5 p5=>?_)
 ·refine go 4 ?_;refine sxb 9 rfl (fun h9 p9=>?_) (fun h9 p9=>?_)
  ·refine go 11 ?_;refine a0s rfl rfl ?_;exact q_v (by simp[a3C,h5,h9])
  ·refine go 3 ?_;refine sxb 12 rfl (fun h12 p12=>?_) (fun h12 p12=>?_)
   ·refine go 8 ?_;refine a0s rfl rfl ?_;exact q_v (by simp[a3C,h5,h9,h12])
   ·refine go 8 ?_;refine a0s rfl rfl ?_;exact q_v (by simp[a3C,h5,h9,h12])
 ·refine go 7 ?_;refine sxb 12 rfl (fun h12 p12=>?_) (fun h12 p12=>?_)
  ·refine go 8 ?_;refine a0s rfl rfl ?_;exact q_v (by simp[a3C,h5,h12])
  ·refine go 8 ?_;refine a0s rfl rfl ?_;exact q_v (by simp[a3C,h5,h12])
theorem c5N (I:IMap) (c:UInt8) :
    FnV Tryz.prog 283 #[.int .u8 (c.toNat:Int)] I (.bool (a3r c)):=by
 refine enter Tryz.func283 Tryz.call283 rfl Tryz.ntmps283 rfl (fun w0=>?_);refine go 10 ?_;refine sxb 5 rfl (fun h5 p5=>?_) (fun h5 p5=>?_)
 ·refine go 7 ?_;refine a0s rfl rfl ?_;exact q_v (by simp[a3r,h5])
 ·refine go 7 ?_;refine a0s rfl rfl ?_;exact q_v (by simp[a3r,h5])
theorem c9M (I:IMap) (c:UInt8) :
    FnV Tryz.prog 229 #[.int .u8 (c.toNat:Int)] I (.bool (a7a c)):=by
 refine enter Tryz.func229 Tryz.call229 rfl Tryz.ntmps229 rfl (fun w0=>?_);refine go 9 ?_;refine a0d (b5N _ c) rfl rfl ?_;refine go 1 ?_;refine sxb 5 rfl (fun h5 p5=>?_) (fun h5 p5=>?_)
 ·refine go 11 ?_;refine a0s rfl rfl ?_;exact q_v (by simp[a7a,h5])
 ·refine go 2 ?_;refine a0R rfl rfl h5 (a0d (c5N _ c) rfl rfl ?_);refine go 2 ?_;refine sxb 9 rfl (fun h9 p9=>?_) (fun h9 p9=>?_)
  ·refine go 7 ?_;refine a0s rfl rfl ?_;exact q_v (by simp[a7a,h5,h9])
  ·refine go 7 ?_;refine a0s rfl rfl ?_;exact q_v (by simp[a7a,h5,h9])
theorem a7e (I:IMap) (s:ByteArray) (hs:s.size≤9223372036854775807) :
    FnV Tryz.prog 167 #[.string s] I (.bool (a2e s)):=by
 refine enter Tryz.func167 Tryz.call167 rfl Tryz.ntmps167 rfl (fun w0=>?_);refine go 12 ?_
 refine a0Q (α:=Nat) 0 (fun i=>I)
  (fun i=>[(0,.string s),(3,.int .i64 (i:Int))])
  (fun i=>[])
  (fun i=>i≤s.size∧a8b s i=true)
  (fun i=>s.size-i) ⟨Nat.zero_le _,rfl⟩ rfl sb rfl ?_
 intro i ⟨hi,hn⟩;refine go 9 ?_;refine cb rfl (fun h7 p7=>?_) (fun h7 p7=>?_)
 ·refine go 8 ?_;refine o_v rfl (c1v he rfl rfl i (by omega) (by omega)) ?_;refine go 1 ?_;refine a0d (c9M _ _) rfl rfl ?_;refine go 3 ?_;refine cb rfl (fun h14 p14=>?_) (fun h14 p14=>?_)
  ·refine go 11 ?_;refine a0s rfl rfl ?_;exact q_v (by simp[a2e,c1E (show i<s.size by omega) p14])
  ·refine go 9 ?_;exact a0M (i+1) ⟨by omega,b8c hn p14⟩ (by omega) rfl sb rfl
 ·refine go 11 ?_;refine sxb 18 rfl (fun h18 p18=>?_) (fun h18 p18=>?_)
  ·refine go 5 ?_;refine sxb 23 rfl (fun h23 p23=>?_) (fun h23 p23=>?_)
   ·refine go 1 ?_;refine a1d (a0R rfl rfl h23 (a0t rfl (c1v he rfl rfl 0 (by omega) (by omega)) ?_));refine go 1 ?_;refine a0R rfl rfl h23 (a0d (b5N _ _) rfl rfl ?_);refine go 5 ?_;refine a0s rfl rfl ?_;exact q_v (by have e:i=s.size:=(by omega);subst e;simp only[a2e,hn,h7,h18,h23,bS])
   ·refine go 8 ?_;refine a0s rfl rfl ?_;exact q_v (by have e:i=s.size:=(by omega);subst e;simp only[a2e,hn,h7,h18,h23,bS])
  ·refine go 13 ?_;refine a0s rfl rfl ?_;exact q_v (by have e:i=s.size:=(by omega);subst e;simp only[a2e,hn,h7,h18,bS])
theorem d0l (I:IMap) (v:Value) (l:List ByteArray) (s:ByteArray) (hv:RdS I v l) :
    FnV Tryz.prog 181 #[v,.string s] I (.bool (decide (s∈l))):=by
 obtain⟨A,c,rfl,hA,hc,hm⟩:=hv;refine enter Tryz.func181 Tryz.call181 rfl Tryz.ntmps181 rfl (fun w0=>?_);refine go 12 ?_
 refine a0Q (α:=Nat) 0 (fun i=>I)
  (fun i=>[(0,.slice A l.length c),(1,.string s),(5,.int .i64 (i:Int))])
  (fun i=>[])
  (fun i=>i≤l.length∧∀j,j<i→l[j]? ≠ some s)
  (fun i=>l.length-i) ⟨Nat.zero_le _,fun j hj=>absurd hj (Nat.not_lt_zero j)⟩ rfl sb rfl ?_
 intro i ⟨hi,hn⟩;refine go 9 ?_;refine cb rfl (fun h9 p9=>?_) (fun h9 p9=>?_)
 ·have hlt:i<l.length:=by omega
  refine go 8 ?_;obtain⟨b14,o14,w14,e14,c14,r14⟩:=RdA.at_ hA (i:=i) hlt;obtain rfl:=r14;refine o_v rfl (a0h he rfl rfl e14 (i) (by omega) hlt) ?_;refine o_v rfl (a0K he rfl (c14 0 _ rfl)) ?_;refine go 4 ?_;refine cb rfl (fun h17 p17=>?_) (fun h17 p17=>?_)
  ·refine go 11 ?_;refine a0s rfl rfl ?_;exact q_v (by rw[←p17];simp)
  ·refine go 9 ?_;exact a0M (i+1) ⟨by omega,fun j hj=>c7r hn hlt p17 j hj⟩ (by omega) rfl sb rfl
 ·refine go 11 ?_;refine a0s rfl rfl ?_;exact q_v (by simp only[b7X l s (fun j hj=>hn j (by omega))])
theorem a6u (args:Array Value) (w:World):(callFunc 334 args).run Tryz.prog w=((Extern.BytealgIndexByte.indexByte args).run Tryz.prog w).andThen fun v w'=>.ok (.value v) w':=by
 have h1:Extern.findNext Tryz.f334=none:=by kernel_rfl
 have h2:Extern.find Tryz.f334=some Extern.BytealgIndexByte.indexByte:=by kernel_rfl
 have h3 : (Tryz.f334.name == "runtime.NumGoroutine") = false := by kernel_rfl
 have h4:Tryz.f334.body.isNone=true:=rfl
 simp only[callFunc,Sem.run_bind,run_program,Result.andThen_ok,Tryz.func334,h3,h4,h1,h2]
 simp
theorem a9q (I:IMap) (s:ByteArray) (c:UInt8):FnV Tryz.prog 334 #[.string s,.int .u8 (c.toNat:Int)] I (.int .i64 (Lib.indexByte s.data.toList c)):=by
 refine⟨fun w m=>?_⟩;unfold After;rw[a6u,Lib.run_indexByteString];exact⟨_,I,[],rfl,m,by simp,rfl,rfl⟩
theorem b1D (I:IMap) (s:ByteArray) (c:UInt8) :
    FnV Tryz.prog 305 #[.string s,.int .u8 (c.toNat:Int)] I (.int .i64 (Lib.indexByte s.data.toList c)):=by
 refine enter Tryz.func305 Tryz.call305 rfl Tryz.ntmps305 rfl (fun w0=>?_);refine go 10 ?_;refine a0d (a9q I s c) rfl rfl ?_;refine go 4 ?_;refine a0s rfl rfl ?_;exact q_v rfl
theorem indexByte (I:IMap) (s:ByteArray) (c:UInt8) :
    FnV Tryz.prog 248 #[.string s,.int .u8 (c.toNat:Int)] I (.int .i64 (Lib.indexByte s.data.toList c)):=by
 refine enter Tryz.func248 Tryz.call248 rfl Tryz.ntmps248 rfl (fun w0=>?_);refine go 10 ?_;refine a0d (b1D I s c) rfl rfl ?_;refine go 4 ?_;refine a0s rfl rfl ?_;exact q_v rfl
theorem c5B (I:IMap) :
    FnV Tryz.prog 199 #[] I (.agg clsTab.toArray):=by
 refine enter Tryz.func199 Tryz.call199 rfl Tryz.ntmps199 rfl (fun w0=>?_);refine go 3 ?_;refine a0j he rfl (fun g0=>?_);refine go 5 ?_;refine a0j he rfl (fun g1=>?_);refine go 9 ?_
 refine a0Q (α:=Nat) 0 (fun i=>I)
  (fun i=>[(1,.pointer (some ⟨g1,0,none⟩)),(0,.pointer (some ⟨g0,0,none⟩)),(4,.int .i64 (i:Int))])
  (fun i=>[.blk g1 265 (a4b i),.blk g0 265 (a4b 0)])
  (fun i=>i≤256)
  (fun i=>256-i) (by omega) rfl sb rfl ?_
 intro i hi;refine go 6 ?_;refine cb rfl (fun h5 p5=>?_) (fun h5 p5=>?_)
 ·have hlt:i<256:=by omega
  have hb:((i.toUInt8.toNat:Nat):Int)=(i:Int):=by simp;omega
  refine go 3 ?_;refine a2I (I':=I) (L':=[(1,.pointer (some ⟨g1,0,none⟩)),(0,.pointer (some ⟨g0,0,none⟩)),(4,.int .i64 (i:Int))]) (H':=[.blk g1 265 (a4b (i+1)),.blk g0 265 (a4b 0)]) ?_ ?_
  ·refine go 10 ?_;refine o_v rfl (a2B he he rfl (m:=((i.toUInt8.toNat:Nat):Int)) (by rw[hb];exact c1G i hlt)) ?_;refine go 5 ?_;refine b8y (L':=[(1,.pointer (some ⟨g1,0,none⟩)),(0,.pointer (some ⟨g0,0,none⟩)),(4,.int .i64 (i:Int)),(2,.int .i64 (i:Int)),(3,.int .u8 (i.toUInt8.toNat:Int)),(9,.bool (a6l i.toUInt8||b0a i.toUInt8))]) ?_ ?_
   ·refine go 1 ?_;refine b8y (L':=[(1,.pointer (some ⟨g1,0,none⟩)),(0,.pointer (some ⟨g0,0,none⟩)),(4,.int .i64 (i:Int)),(2,.int .i64 (i:Int)),(3,.int .u8 (i.toUInt8.toNat:Int)),(9,.bool (a6l i.toUInt8))]) ?_ ?_
    ·refine go 4 ?_;refine sxb 12 rfl (fun h12 p12=>?_) (fun h12 p12=>?_)
     ·refine go 6 ?_;exact a0L ⟨rfl,rfl,rfl,rfl,rfl,(congrArg (fun b=>some (Value.bool b)) (by simp only[a6l,h5,h12,bS])),trivial⟩ rfl rfl
     ·refine go 6 ?_;exact a0L ⟨rfl,rfl,rfl,rfl,rfl,(congrArg (fun b=>some (Value.bool b)) (by simp only[a6l,h5,h12,bS])),trivial⟩ rfl rfl
    ·refine cb rfl (fun h9 p9=>?_) (fun h9 p9=>?_)
     ·refine go 2 ?_;exact a0L ⟨rfl,rfl,rfl,rfl,rfl,(congrArg (fun b=>some (Value.bool b)) (by simp only[b0a,h9,bS])),trivial⟩ rfl rfl
     ·refine go 4 ?_;refine sxb 18 rfl (fun h18 p18=>?_) (fun h18 p18=>?_)
      ·refine go 6 ?_;exact a0L ⟨rfl,rfl,rfl,rfl,rfl,(congrArg (fun b=>some (Value.bool b)) (by simp only[b0a,h9,h18,bS])),trivial⟩ rfl rfl
      ·refine go 6 ?_;exact a0L ⟨rfl,rfl,rfl,rfl,rfl,(congrArg (fun b=>some (Value.bool b)) (by simp only[b0a,h9,h18,bS])),trivial⟩ rfl rfl
   ·refine cb rfl (fun h9 p9=>?_) (fun h9 p9=>?_)
    ·refine go 2 ?_;refine o_v rfl (a7q he rfl rfl i (by omega) (by omega)) ?_;refine go 1 ?_;refine a2f he rfl rfl rfl (by rw[a3u,Nat.blt_eq];omega) ?_;refine go 4 ?_;exact a0L sb (congrArg (fun r=>[Res.blk g1 _ r,_]) (a6M i hlt _ (c5E h9))) rfl
    ·refine go 1 ?_;refine b8y (L':=[(1,.pointer (some ⟨g1,0,none⟩)),(0,.pointer (some ⟨g0,0,none⟩)),(4,.int .i64 (i:Int)),(2,.int .i64 (i:Int)),(3,.int .u8 (i.toUInt8.toNat:Int)),(24,.bool (a3r i.toUInt8))]) ?_ ?_
     ·refine go 4 ?_;refine sxb 27 rfl (fun h27 p27=>?_) (fun h27 p27=>?_)
      ·refine go 6 ?_;exact a0L ⟨rfl,rfl,rfl,rfl,rfl,(congrArg (fun b=>some (Value.bool b)) (by simp only[a3r,h9,h27,bS])),trivial⟩ rfl rfl
      ·refine go 6 ?_;exact a0L ⟨rfl,rfl,rfl,rfl,rfl,(congrArg (fun b=>some (Value.bool b)) (by simp only[a3r,h9,h27,bS])),trivial⟩ rfl rfl
     ·refine cb rfl (fun h24 p24=>?_) (fun h24 p24=>?_)
      ·refine go 2 ?_;refine o_v rfl (a7q he rfl rfl i (by omega) (by omega)) ?_;refine go 1 ?_;refine a2f he rfl rfl rfl (by rw[a3u,Nat.blt_eq];omega) ?_;refine go 4 ?_;exact a0L sb (congrArg (fun r=>[Res.blk g1 _ r,_]) (a6M i hlt _ (c5F h9 h24))) rfl
      ·refine go 4 ?_;refine a0d (indexByte I _ i.toUInt8) rfl rfl ?_;refine go 4 ?_;refine cb rfl (fun h33 p33=>?_) (fun h33 p33=>?_)
       ·refine go 2 ?_;refine o_v rfl (a7q he rfl rfl i (by omega) (by omega)) ?_;refine go 1 ?_;refine a2f he rfl rfl rfl (by rw[a3u,Nat.blt_eq];omega) ?_;refine go 4 ?_;exact a0L sb (congrArg (fun r=>[Res.blk g1 _ r,_]) (a6M i hlt _ (c5D h9 h24 h33))) rfl
       ·refine go 4 ?_;refine a0d (indexByte I _ i.toUInt8) rfl rfl ?_;refine go 4 ?_;refine cb rfl (fun h39 p39=>?_) (fun h39 p39=>?_)
        ·refine go 2 ?_;refine o_v rfl (a7q he rfl rfl i (by omega) (by omega)) ?_;refine go 1 ?_;refine a2f he rfl rfl rfl (by rw[a3u,Nat.blt_eq];omega) ?_;refine go 4 ?_;exact a0L sb (congrArg (fun r=>[Res.blk g1 _ r,_]) (a6M i hlt _ (c5G h9 h24 h33 h39))) rfl
        ·refine go 4 ?_;exact a0L sb (congrArg (fun r=>[Res.blk g1 _ r,_]) (b3Z i hlt (c5C h9 h24 h33 h39)).symm) rfl
  ·refine go 5 ?_;exact a0M (i+1) (by omega) (by omega) rfl sb rfl
 ·refine go 7 ?_;refine o_v rfl (a7q he rfl rfl 35 rfl (by omega)) ?_;refine go 1 ?_;refine a2f he rfl rfl rfl (by simp only[List.length_set,a3u];rfl) ?_;refine o_v rfl (a7q he rfl rfl 95 rfl (by omega)) ?_;refine go 1 ?_;refine a2f he rfl rfl rfl (by simp only[List.length_set,a3u];rfl) ?_;refine o_v rfl (a7q he rfl rfl 34 rfl (by omega)) ?_;refine go 1 ?_;refine a2f he rfl rfl rfl (by simp only[List.length_set,a3u];rfl) ?_;refine go 6 ?_;refine a0f ?_;refine a0p _ he rfl rfl rfl rfl rfl rfl ?_;refine go 3 ?_;refine a0s rfl ⟨_,_,_,rfl,m0,.inr ⟨_,he,rfl,rfl⟩⟩ ?_
  have e:i=256:=(by omega)
  subst e;exact q_v rfl
theorem a7I (I:IMap) (s:ByteArray) (hs:s.size≤9223372036854775807) :
    FnV Tryz.prog 126 #[.string s] I (.bool (a2k s)):=by
 refine enter Tryz.func126 Tryz.call126 rfl Tryz.ntmps126 rfl (fun w0=>?_);refine go 8 ?_;refine a0d (c5B _) rfl rfl ?_;refine go 1 ?_;refine a0j he rfl (fun g3=>?_);refine go 1 ?_;refine a0p _ he rfl rfl rfl rfl rfl rfl ?_;refine go 11 ?_
 refine a0Q (α:=Nat) 0 (fun i=>I)
  (fun i=>[(0,.string s),(3,.pointer (some ⟨g3,0,none⟩)),(8,.int .i64 (s.size:Int)),(9,.int .i64 (i:Int))])
  (fun i=>[.blk g3 265 clsTab])
  (fun i=>i≤s.size∧a7v s i=true)
  (fun i=>s.size-i) ⟨Nat.zero_le _,rfl⟩ rfl sb rfl ?_
 intro i ⟨hi,hn⟩;refine go 6 ?_;refine cb rfl (fun h10 p10=>?_) (fun h10 p10=>?_)
 ·refine go 14 ?_;refine o_v rfl (c1v he rfl rfl i (by omega) (by omega)) ?_;refine o_v rfl (a7q he rfl rfl (s[i]!).toNat rfl (s[i]!).toNat_lt) ?_;refine o_v rfl (a2H m0 he rfl (by rw[show 0+(s[i]!).toNat * 1=(s[i]!).toNat from by omega];exact b8I _)) ?_;refine go 8 ?_;refine sxb 19 rfl (fun h19 p19=>?_) (fun h19 p19=>?_)
  ·refine go 3 ?_;refine sxb 22 rfl (fun h22 p22=>?_) (fun h22 p22=>?_)
   ·refine go 10 ?_;refine a2M rfl ?_;refine go 11 ?_;refine a0s rfl rfl ?_;exact q_v (by simp only[a2k,b2J (show i<s.size by omega) (show a3n s i=false by simp only[a3n,←(a4y _).1,←(a4y _).2.1,←(a4y _).2.2];simp_all),bS])
   ·refine go 3 ?_;refine sxb 25 rfl (fun h25 p25=>?_) (fun h25 p25=>?_)
    ·refine go 7 ?_;refine cb rfl (fun h30 p30=>?_) (fun h30 p30=>?_)
     ·refine go 11 ?_;refine a0s rfl rfl ?_;exact q_v (by simp only[a2k,b2J (show i<s.size by omega) (show a3n s i=false by simp only[a3n,←(a4y _).1,←(a4y _).2.1,←(a4y _).2.2];simp_all),bS])
     ·refine go 8 ?_;exact a0M (i+1) ⟨by omega,a7w hn (by simp only[a3n,←(a4y _).1,←(a4y _).2.1,←(a4y _).2.2];simp_all)⟩ (by omega) rfl sb rfl
    ·refine go 7 ?_;refine a0T rfl ?_;refine go 8 ?_;exact a0M (i+1) ⟨by omega,a7w hn (by simp only[a3n,←(a4y _).1,←(a4y _).2.1,←(a4y _).2.2];simp_all)⟩ (by omega) rfl sb rfl
  ·refine go 13 ?_;refine a0T rfl ?_;refine go 8 ?_;exact a0M (i+1) ⟨by omega,a7w hn (by simp only[a3n,←(a4y _).1,←(a4y _).2.1,←(a4y _).2.2];simp_all)⟩ (by omega) rfl sb rfl
 ·refine go 10 ?_;refine sxb 34 rfl (fun h34 p34=>?_) (fun h34 p34=>?_)
  ·refine go 8 ?_;refine a0s rfl rfl ?_
   have e:i=s.size:=(by omega)
   subst e;exact q_v (by simp only[a2k,hn,h10,h34,bS])
  ·refine go 8 ?_;refine a0s rfl rfl ?_
   have e:i=s.size:=(by omega)
   subst e;exact q_v (by simp only[a2k,hn,h10,h34,bS])
end Go.Proofs.YtdapmfkbpnjkmaaGreat
namespace Go.Proofs.YtdapmfkbpnjkmaaGreat
open Go Go.Sx
set_option linter.all false
set_option maxRecDepth 20000
set_option maxHeartbeats 4000000
instance T.by_9:Has (a2D Tryz.prog 9) ([.string ⟨#[]⟩],1,16):=⟨by kernel_rfl⟩
instance T.elt_166:Has (a8r Tryz.prog 166) (170,3):=⟨by kernel_rfl⟩
instance T.elt_22:Has (a8r Tryz.prog 22) (168,3):=⟨by kernel_rfl⟩
instance T.elt_51:Has (a8r Tryz.prog 51) (48,14):=⟨by kernel_rfl⟩
instance T.elt_62:Has (a8r Tryz.prog 62) (96,14):=⟨by kernel_rfl⟩
instance T.fld_168_0:Has (a3Q Tryz.prog 168 0) (0,false,1):=⟨by kernel_rfl⟩
instance T.fld_168_1:Has (a3Q Tryz.prog 168 1) (1,false,1):=⟨by kernel_rfl⟩
instance T.fld_168_2:Has (a3Q Tryz.prog 168 2) (2,false,1):=⟨by kernel_rfl⟩
instance T.fld_170_0:Has (a3Q Tryz.prog 170 0) (0,false,1):=⟨by kernel_rfl⟩
instance T.fld_170_1:Has (a3Q Tryz.prog 170 1) (1,false,1):=⟨by kernel_rfl⟩
instance T.fld_170_2:Has (a3Q Tryz.prog 170 2) (2,false,1):=⟨by kernel_rfl⟩
instance T.fld_24_0:Has (a3Q Tryz.prog 24 0) (0,false,1):=⟨by kernel_rfl⟩
theorem T.mixed:Tryz.prog.follows .mixedOrders=true:=by kernel_rfl
instance T.pl_168:Has (plK Tryz.prog 168) [(0,1),(1,1),(2,1)]:=⟨by kernel_rfl⟩
instance T.pl_170:Has (plK Tryz.prog 170) [(0,1),(1,1),(2,1)]:=⟨by kernel_rfl⟩
instance T.pl_24:Has (plK Tryz.prog 24) [(0,1)]:=⟨by kernel_rfl⟩
instance T.ty_166:Has (tyK Tryz.prog 166) (false,1):=⟨by kernel_rfl⟩
instance T.ty_168:Has (tyK Tryz.prog 168) (true,3):=⟨by kernel_rfl⟩
instance T.ty_170:Has (tyK Tryz.prog 170) (true,3):=⟨by kernel_rfl⟩
instance T.ty_22:Has (tyK Tryz.prog 22) (false,1):=⟨by kernel_rfl⟩
instance T.ty_24:Has (tyK Tryz.prog 24) (true,1):=⟨by kernel_rfl⟩
instance T.ty_283:Has (tyK Tryz.prog 283) (false,1):=⟨by kernel_rfl⟩
instance T.ty_3:Has (tyK Tryz.prog 3) (false,1):=⟨by kernel_rfl⟩
instance T.ty_33:Has (tyK Tryz.prog 33) (false,1):=⟨by kernel_rfl⟩
instance T.ty_331:Has (tyK Tryz.prog 331) (false,1):=⟨by kernel_rfl⟩
instance T.ty_4:Has (tyK Tryz.prog 4) (false,1):=⟨by kernel_rfl⟩
instance T.ty_48:Has (tyK Tryz.prog 48) (true,14):=⟨by kernel_rfl⟩
instance T.ty_96:Has (tyK Tryz.prog 96) (true,14):=⟨by kernel_rfl⟩
instance T.und_166:Has (Tryz.prog.underlying 166) (.slice 170):=⟨by kernel_rfl⟩
instance T.und_184:Has (Tryz.prog.underlying 184) (.map 9 4):=⟨by kernel_rfl⟩
instance T.und_22:Has (Tryz.prog.underlying 22) (.slice 168):=⟨by kernel_rfl⟩
instance T.und_51:Has (Tryz.prog.underlying 51) (.slice 48):=⟨by kernel_rfl⟩
instance T.und_62:Has (Tryz.prog.underlying 62) (.slice 96):=⟨by kernel_rfl⟩
instance T.zero_168:Has (a2t Tryz.prog 168) [.string ⟨#[]⟩,.bool false,.slice none 0 0]:=⟨by kernel_rfl⟩
instance T.zero_170:Has (a2t Tryz.prog 170) [.string ⟨#[]⟩,.slice none 0 0,.int .i64 0]:=⟨by kernel_rfl⟩
instance T.zero_24:Has (a2t Tryz.prog 24) [.slice none 0 0]:=⟨by kernel_rfl⟩
instance T.zero_9:Has (a2t Tryz.prog 9) [.string ⟨#[]⟩]:=⟨by kernel_rfl⟩
instance T.zv_4:Has (zvK Tryz.prog 4) (.bool false):=⟨by kernel_rfl⟩
theorem b2T (I:IMap) (x:Int) :
    FnV Tryz.prog 210 #[.int .i64 x] I (.bool false):=by
 refine enter Tryz.func210 Tryz.call210 rfl Tryz.ntmps210 rfl (fun w0=>?_);refine go 14 ?_;refine a0s rfl rfl ?_;exact q_v (by simp)
theorem a8g (I:IMap) (x:ByteArray) :
    FnV Tryz.prog 109 #[.string x] I (.bool false):=by
 refine enter Tryz.func109 Tryz.call109 rfl Tryz.ntmps109 rfl (fun w0=>?_);refine go 14 ?_;refine a0s rfl rfl ?_;exact q_v (by simp)
theorem b4d (I:IMap) (x y:Int) :
    FnV Tryz.prog 143 #[.int .i64 x,.int .i64 y] I (.int .i64 (b4a x y)):=by
 refine enter Tryz.func143 Tryz.call143 rfl Tryz.ntmps143 rfl (fun w0=>?_);refine go 9 ?_;refine a0d (b2T I x) rfl rfl ?_;refine go 7 ?_;refine a0d (b2T I y) rfl rfl ?_;refine go 9 ?_;refine a0T rfl ?_;refine go 8 ?_;refine a0T rfl ?_;refine go 10 ?_;refine cb rfl (fun h16 p16=>?_) (fun h16 p16=>?_)
 ·refine go 7 ?_;refine a0s rfl rfl ?_;exact q_v (by unfold b4a;simp only[p16,if_true])
 ·refine go 10 ?_;refine cb rfl (fun h19 p19=>?_) (fun h19 p19=>?_)
  ·refine go 7 ?_;refine a0s rfl rfl ?_;exact q_v (by unfold b4a;simp only[p16,p19,if_true,if_false])
  ·refine go 8 ?_;refine a0s rfl rfl ?_;exact q_v (by unfold b4a;simp only[p16,p19,if_false])
theorem a3i (I:IMap) (x y:ByteArray) :
    FnV Tryz.prog 57 #[.string x,.string y] I (.int .i64 (a6m x y)):=by
 refine enter Tryz.func57 Tryz.call57 rfl Tryz.ntmps57 rfl (fun w0=>?_);refine go 9 ?_;refine a0d (a8g I x) rfl rfl ?_;refine go 7 ?_;refine a0d (a8g I y) rfl rfl ?_;refine go 9 ?_;refine a0T rfl ?_;refine go 8 ?_;refine a0T rfl ?_;refine go 10 ?_;refine cb rfl (fun h16 p16=>?_) (fun h16 p16=>?_)
 ·refine go 7 ?_;refine a0s rfl rfl ?_;exact q_v (by unfold a6m;rw[if_pos h16])
 ·refine go 10 ?_;refine cb rfl (fun h19 p19=>?_) (fun h19 p19=>?_)
  ·refine go 7 ?_;refine a0s rfl rfl ?_;exact q_v (by unfold a6m;rw[if_neg (by rw[h16];decide),if_pos h19])
  ·refine go 8 ?_;refine a0s rfl rfl ?_;exact q_v (by unfold a6m;rw[if_neg (by rw[h16];decide),if_neg (by rw[h19];decide)])
theorem b0e (I:IMap) (v:Value) (l:List Kind) (hv:RdS I v l) (f:FuncId) (cs:List Value) (p:Kind→Bool) (hp:∀x∈l,∀vs,Enc.rd I vs x→FnV Tryz.prog f ([Value.agg vs.toArray]++cs).toArray I (.bool (p x))) :
    FnV Tryz.prog 265 #[v,.func (.func f) #[] cs.toArray] I (.int .i64 (a5f p l)):=by
 obtain⟨A,c,rfl,hA,hc,hm⟩:=hv;refine enter Tryz.func265 Tryz.call265 rfl Tryz.ntmps265 rfl (fun w0=>?_);refine go 14 ?_
 refine a0Q (α:=Nat) 0 (fun i=>I)
  (fun i=>[(0,.slice A l.length c),(1,.func (.func f) #[] cs.toArray),(7,.int .i64 (l.length:Int)),(8,.int .i64 (i:Int))])
  (fun i=>[])
  (fun i=>i≤l.length∧∀j x,j<i→l[j]? = some x→p x=false)
  (fun i=>l.length-i) ⟨Nat.zero_le _,fun j x hj=>absurd hj (Nat.not_lt_zero j)⟩ rfl sb rfl ?_
 intro i ⟨hi,hn⟩;refine go 6 ?_;refine cb rfl (fun h9 p9=>?_) (fun h9 p9=>?_)
 ·have hlt:i<l.length:=by omega
  refine go 15 ?_;obtain⟨b14,o14,w14,e14,c14,r14⟩:=RdA.at_ hA (i:=i) hlt;refine o_v rfl (a0h he rfl rfl e14 (i) (by omega) hlt) ?_;refine o_v rfl (a0G he rfl c14 (Enc.len r14)) ?_;refine go 1 ?_;refine a0d (hp _ (List.getElem_mem hlt) _ r14) rfl rfl ?_;refine go 2 ?_;refine cb rfl (fun h16 p16=>?_) (fun h16 p16=>?_)
  ·refine go 12 ?_;refine a0s rfl rfl ?_;exact q_v (congrArg (Value.int .i64) (a3w hlt p16 hn).symm)
  ·refine go 8 ?_;exact a0M (i+1) ⟨by omega,a2V hn hlt p16⟩ (by omega) rfl sb rfl
 ·refine go 11 ?_;refine a0s rfl rfl ?_;exact q_v (congrArg (Value.int .i64) (a4e (fun j x hj=>hn j x (by omega))).symm)
theorem b0g (I:IMap) (v:Value) (l:List Slot) (hv:RdS I v l) (f:FuncId) (cs:List Value) (p:Slot→Bool) (hp:∀x∈l,∀vs,Enc.rd I vs x→FnV Tryz.prog f ([Value.agg vs.toArray]++cs).toArray I (.bool (p x))) :
    FnV Tryz.prog 319 #[v,.func (.func f) #[] cs.toArray] I (.int .i64 (a5f p l)):=by
 obtain⟨A,c,rfl,hA,hc,hm⟩:=hv;refine enter Tryz.func319 Tryz.call319 rfl Tryz.ntmps319 rfl (fun w0=>?_);refine go 14 ?_
 refine a0Q (α:=Nat) 0 (fun i=>I)
  (fun i=>[(0,.slice A l.length c),(1,.func (.func f) #[] cs.toArray),(7,.int .i64 (l.length:Int)),(8,.int .i64 (i:Int))])
  (fun i=>[])
  (fun i=>i≤l.length∧∀j x,j<i→l[j]? = some x→p x=false)
  (fun i=>l.length-i) ⟨Nat.zero_le _,fun j x hj=>absurd hj (Nat.not_lt_zero j)⟩ rfl sb rfl ?_
 intro i ⟨hi,hn⟩;refine go 6 ?_;refine cb rfl (fun h9 p9=>?_) (fun h9 p9=>?_)
 ·have hlt:i<l.length:=by omega
  refine go 15 ?_;obtain⟨b14,o14,w14,e14,c14,r14⟩:=RdA.at_ hA (i:=i) hlt;refine o_v rfl (a0h he rfl rfl e14 (i) (by omega) hlt) ?_;refine o_v rfl (a0G he rfl c14 (Enc.len r14)) ?_;refine go 1 ?_;refine a0d (hp _ (List.getElem_mem hlt) _ r14) rfl rfl ?_;refine go 2 ?_;refine cb rfl (fun h16 p16=>?_) (fun h16 p16=>?_)
  ·refine go 12 ?_;refine a0s rfl rfl ?_;exact q_v (congrArg (Value.int .i64) (a3w hlt p16 hn).symm)
  ·refine go 8 ?_;exact a0M (i+1) ⟨by omega,a2V hn hlt p16⟩ (by omega) rfl sb rfl
 ·refine go 11 ?_;refine a0s rfl rfl ?_;exact q_v (congrArg (Value.int .i64) (a4e (fun j x hj=>hn j x (by omega))).symm)
theorem b0f (I:IMap) (v:Value) (l:List Part) (hv:RdS I v l) (f:FuncId) (cs:List Value) (p:Part→Bool) (hp:∀x∈l,∀vs,Enc.rd I vs x→FnV Tryz.prog f ([Value.agg vs.toArray]++cs).toArray I (.bool (p x))) :
    FnV Tryz.prog 219 #[v,.func (.func f) #[] cs.toArray] I (.int .i64 (a5f p l)):=by
 obtain⟨A,c,rfl,hA,hc,hm⟩:=hv;refine enter Tryz.func219 Tryz.call219 rfl Tryz.ntmps219 rfl (fun w0=>?_);refine go 14 ?_
 refine a0Q (α:=Nat) 0 (fun i=>I)
  (fun i=>[(0,.slice A l.length c),(1,.func (.func f) #[] cs.toArray),(7,.int .i64 (l.length:Int)),(8,.int .i64 (i:Int))])
  (fun i=>[])
  (fun i=>i≤l.length∧∀j x,j<i→l[j]? = some x→p x=false)
  (fun i=>l.length-i) ⟨Nat.zero_le _,fun j x hj=>absurd hj (Nat.not_lt_zero j)⟩ rfl sb rfl ?_
 intro i ⟨hi,hn⟩;refine go 6 ?_;refine cb rfl (fun h9 p9=>?_) (fun h9 p9=>?_)
 ·have hlt:i<l.length:=by omega
  refine go 15 ?_;obtain⟨b14,o14,w14,e14,c14,r14⟩:=RdA.at_ hA (i:=i) hlt;refine o_v rfl (a0h he rfl rfl e14 (i) (by omega) hlt) ?_;refine o_v rfl (a0G he rfl c14 (Enc.len r14)) ?_;refine go 1 ?_;refine a0d (hp _ (List.getElem_mem hlt) _ r14) rfl rfl ?_;refine go 2 ?_;refine cb rfl (fun h16 p16=>?_) (fun h16 p16=>?_)
  ·refine go 12 ?_;refine a0s rfl rfl ?_;exact q_v (congrArg (Value.int .i64) (a3w hlt p16 hn).symm)
  ·refine go 8 ?_;exact a0M (i+1) ⟨by omega,a2V hn hlt p16⟩ (by omega) rfl sb rfl
 ·refine go 11 ?_;refine a0s rfl rfl ?_;exact q_v (congrArg (Value.int .i64) (a4e (fun j x hj=>hn j x (by omega))).symm)
theorem a7z (I:IMap) (v:Value) (l:List Part) (hv:RdS I v l) (f:FuncId) (cs:List Value) (p:Part→Bool) (hp:∀x∈l,∀vs,Enc.rd I vs x→FnV Tryz.prog f ([Value.agg vs.toArray]++cs).toArray I (.bool (p x))) :
    FnV Tryz.prog 151 #[v,.func (.func f) #[] cs.toArray] I (.bool (l.any p)):=by
 refine enter Tryz.func151 Tryz.call151 rfl Tryz.ntmps151 rfl (fun w0=>?_);refine go 10 ?_;refine a0d (b0f I v l hv f cs p hp) rfl rfl ?_;refine go 5 ?_;refine a0s rfl rfl ?_;exact q_v (congrArg Value.bool (a6a p l))
theorem b1E (I:IMap) (v:Value) (l:List Evt) (hv:RdS I v l) (f:FuncId) (cs:List Value) (p:Evt→Bool) (hp:∀x∈l,∀vs,Enc.rd I vs x→FnV Tryz.prog f ([Value.agg vs.toArray]++cs).toArray I (.bool (p x))) :
    FnV Tryz.prog 140 #[v,.func (.func f) #[] cs.toArray] I (.int .i64 (a5f p l)):=by
 obtain⟨A,c,rfl,hA,hc,hm⟩:=hv;refine enter Tryz.func140 Tryz.call140 rfl Tryz.ntmps140 rfl (fun w0=>?_);refine go 14 ?_
 refine a0Q (α:=Nat) 0 (fun i=>I)
  (fun i=>[(0,.slice A l.length c),(1,.func (.func f) #[] cs.toArray),(7,.int .i64 (l.length:Int)),(8,.int .i64 (i:Int))])
  (fun i=>[])
  (fun i=>i≤l.length∧∀j x,j<i→l[j]? = some x→p x=false)
  (fun i=>l.length-i) ⟨Nat.zero_le _,fun j x hj=>absurd hj (Nat.not_lt_zero j)⟩ rfl sb rfl ?_
 intro i ⟨hi,hn⟩;refine go 6 ?_;refine cb rfl (fun h9 p9=>?_) (fun h9 p9=>?_)
 ·have hlt:i<l.length:=by omega
  refine go 15 ?_;obtain⟨b14,o14,w14,e14,c14,r14⟩:=RdA.at_ hA (i:=i) hlt;refine o_v rfl (a0h he rfl rfl e14 (i) (by omega) hlt) ?_;refine o_v rfl (a0G he rfl c14 (Enc.len r14)) ?_;refine go 1 ?_;refine a0d (hp _ (List.getElem_mem hlt) _ r14) rfl rfl ?_;refine go 2 ?_;refine cb rfl (fun h16 p16=>?_) (fun h16 p16=>?_)
  ·refine go 12 ?_;refine a0s rfl rfl ?_;exact q_v (congrArg (Value.int .i64) (a3w hlt p16 hn).symm)
  ·refine go 8 ?_;exact a0M (i+1) ⟨by omega,a2V hn hlt p16⟩ (by omega) rfl sb rfl
 ·refine go 11 ?_;refine a0s rfl rfl ?_;exact q_v (congrArg (Value.int .i64) (a4e (fun j x hj=>hn j x (by omega))).symm)
theorem a8u (I:IMap) (v:Value) (l:List ByteArray) (hv:RdS I v l) (f:FuncId) (cs:List Value) (p:ByteArray→Bool) (hp:∀x∈l,∀vs,Enc.rd I vs x→FnV Tryz.prog f ([Value.string x]++cs).toArray I (.bool (p x))) :
    FnV Tryz.prog 200 #[v,.func (.func f) #[] cs.toArray] I (.int .i64 (a5f p l)):=by
 obtain⟨A,c,rfl,hA,hc,hm⟩:=hv;refine enter Tryz.func200 Tryz.call200 rfl Tryz.ntmps200 rfl (fun w0=>?_);refine go 14 ?_
 refine a0Q (α:=Nat) 0 (fun i=>I)
  (fun i=>[(0,.slice A l.length c),(1,.func (.func f) #[] cs.toArray),(7,.int .i64 (l.length:Int)),(8,.int .i64 (i:Int))])
  (fun i=>[])
  (fun i=>i≤l.length∧∀j x,j<i→l[j]? = some x→p x=false)
  (fun i=>l.length-i) ⟨Nat.zero_le _,fun j x hj=>absurd hj (Nat.not_lt_zero j)⟩ rfl sb rfl ?_
 intro i ⟨hi,hn⟩;refine go 6 ?_;refine cb rfl (fun h9 p9=>?_) (fun h9 p9=>?_)
 ·have hlt:i<l.length:=by omega
  refine go 15 ?_;obtain⟨b14,o14,w14,e14,c14,r14⟩:=RdA.at_ hA (i:=i) hlt;obtain rfl:=r14;refine o_v rfl (a0h he rfl rfl e14 (i) (by omega) hlt) ?_;refine o_v rfl (a0K he rfl (c14 0 _ rfl)) ?_;refine go 1 ?_;refine a0d (hp _ (List.getElem_mem hlt) _ rfl) rfl rfl ?_;refine go 2 ?_;refine cb rfl (fun h16 p16=>?_) (fun h16 p16=>?_)
  ·refine go 12 ?_;refine a0s rfl rfl ?_;exact q_v (congrArg (Value.int .i64) (a3w hlt p16 hn).symm)
  ·refine go 8 ?_;exact a0M (i+1) ⟨by omega,a2V hn hlt p16⟩ (by omega) rfl sb rfl
 ·refine go 11 ?_;refine a0s rfl rfl ?_;exact q_v (congrArg (Value.int .i64) (a4e (fun j x hj=>hn j x (by omega))).symm)
theorem a6t (I:IMap) (v:Value) (l:List ByteArray) (hv:RdS I v l) (f:FuncId) (cs:List Value) (p:ByteArray→Bool) (hp:∀x∈l,∀vs,Enc.rd I vs x→FnV Tryz.prog f ([Value.string x]++cs).toArray I (.bool (p x))) :
    FnV Tryz.prog 128 #[v,.func (.func f) #[] cs.toArray] I (.bool (l.any p)):=by
 refine enter Tryz.func128 Tryz.call128 rfl Tryz.ntmps128 rfl (fun w0=>?_);refine go 10 ?_;refine a0d (a8u I v l hv f cs p hp) rfl rfl ?_;refine go 5 ?_;refine a0s rfl rfl ?_;exact q_v (congrArg Value.bool (a6a p l))
theorem b2P (I:IMap) (v:Value) (l:List ByteArray) (hv:RdS I v l) (s:ByteArray) :
    FnV Tryz.prog 159 #[v,.string s] I (.int .i64 (a5f (fun x=>decide (s=x)) l)):=by
 obtain⟨A,c,rfl,hA,hc,hm⟩:=hv;refine enter Tryz.func159 Tryz.call159 rfl Tryz.ntmps159 rfl (fun w0=>?_);refine go 14 ?_
 refine a0Q (α:=Nat) 0 (fun i=>I)
  (fun i=>[(0,.slice A l.length c),(1,.string s),(7,.int .i64 (l.length:Int)),(8,.int .i64 (i:Int))])
  (fun i=>[])
  (fun i=>i≤l.length∧∀j x,j<i→l[j]? = some x→(fun x=>decide (s=x)) x=false)
  (fun i=>l.length-i) ⟨Nat.zero_le _,fun j x hj=>absurd hj (Nat.not_lt_zero j)⟩ rfl sb rfl ?_
 intro i ⟨hi,hn⟩;refine go 6 ?_;refine cb rfl (fun h9 p9=>?_) (fun h9 p9=>?_)
 ·have hlt:i<l.length:=by omega
  refine go 15 ?_;obtain⟨b14,o14,w14,e14,c14,r14⟩:=RdA.at_ hA (i:=i) hlt;obtain rfl:=r14;refine o_v rfl (a0h he rfl rfl e14 (i) (by omega) hlt) ?_;refine o_v rfl (a0K he rfl (c14 0 _ rfl)) ?_;refine go 3 ?_;refine cb rfl (fun h16 p16=>?_) (fun h16 p16=>?_)
  ·refine go 12 ?_;refine a0s rfl rfl ?_;exact q_v (congrArg (Value.int .i64) (a3w (p:=fun x=>decide (s=x)) hlt h16 hn).symm)
  ·refine go 8 ?_;exact a0M (i+1) ⟨by omega,a2V (p:=fun x=>decide (s=x)) hn hlt h16⟩ (by omega) rfl sb rfl
 ·refine go 11 ?_;refine a0s rfl rfl ?_;exact q_v (congrArg (Value.int .i64) (a4e (p:=fun x=>decide (s=x)) (fun j x hj=>hn j x (by omega))).symm)
theorem a9g (I:IMap) (v:Value) (l:List ByteArray) (hv:RdS I v l) (s:ByteArray) :
    FnV Tryz.prog 95 #[v,.string s] I (.bool (decide (s∈l))):=by
 refine enter Tryz.func95 Tryz.call95 rfl Tryz.ntmps95 rfl (fun w0=>?_);refine go 10 ?_;refine a0d (b2P I v l hv s) rfl rfl ?_;refine go 5 ?_;refine a0s rfl rfl ?_;exact q_v (congrArg Value.bool ((a6a _ l).trans (c5s s l)))
theorem c2G (I:IMap) (k:Kind) (vs:List Value) (h:Enc.rd I vs k) :
    FnV Tryz.prog 218 #[.agg vs.toArray] I (.string k.name):=by
 obtain⟨ss,rfl,hs⟩:=h;refine enter Tryz.func218 Tryz.call218 rfl Tryz.ntmps218 rfl (fun w0=>?_);refine go 3 ?_;refine a0B _ rfl rfl rfl (fun g1=>?_);refine go 11 ?_;refine a0s rfl rfl ?_;exact q_v rfl
theorem c3H (I:IMap) (k:Slot) (vs:List Value) (h:Enc.rd I vs k) :
    FnV Tryz.prog 268 #[.agg vs.toArray] I (.string k.name):=by
 obtain⟨ss,rfl,hs⟩:=h;refine enter Tryz.func268 Tryz.call268 rfl Tryz.ntmps268 rfl (fun w0=>?_);refine go 3 ?_;refine a0B _ rfl rfl rfl (fun g1=>?_);refine go 11 ?_;refine a0s rfl rfl ?_;exact q_v rfl
theorem b4o (I:IMap) (k:Kind) (vs:List Value) (h:Enc.rd I vs k) (fn:FuncId) (nm:Kind→ByteArray) (s:ByteArray) (hn:FnV Tryz.prog fn #[.agg vs.toArray] I (.string (nm k))) (g1 g2:Nat) (c1:ICells I g1 0 [.func (.func fn) #[] #[]]) (c2:ICells I g2 0 [.string s]) :
    FnV Tryz.prog 266 #[.agg vs.toArray,.pointer (some ⟨g1,0,none⟩),.pointer (some ⟨g2,0,none⟩)] I (.bool (decide (nm k=s))):=by
 have hl:=Enc.len h
 refine enter Tryz.func266 Tryz.call266 rfl Tryz.ntmps266 rfl (fun w0=>?_);refine go 3 ?_;refine a0B _ rfl rfl rfl (fun g3=>?_);refine go 4 ?_;refine a0F T.mixed ?_;refine a0e 0 rfl rfl (by kernel_rfl) rfl (.refl _) rfl (a0K he rfl (c1 0 _ rfl)) ?_;refine a0e 1 rfl rfl (by kernel_rfl) rfl (.refl _) rfl (a3U m0 he rfl hl) ?_;refine a0e 3 rfl rfl (by kernel_rfl) rfl (.refl _) rfl (a0K he rfl (c2 0 _ rfl)) ?_;refine a0m 2 (by kernel_rfl) rfl ?_;refine a0d (hn) rfl rfl ?_;refine a0D (fun _ m=>m.keeps (.refl _)) ?_;refine a0e 4 rfl rfl (by kernel_rfl) rfl (.refl _) rfl (a5E rfl rfl) ?_;refine a0e 5 rfl rfl (by kernel_rfl) rfl (.refl _) rfl (a0Y rfl) ?_;refine a0n (by kernel_rfl) ?_;refine go 2 ?_;refine a0s rfl rfl ?_;exact q_v rfl
theorem b7f (I:IMap) (v:Value) (l:List Kind) (hv:RdS I v l) (fn:FuncId) (nm:Kind→ByteArray) (s:ByteArray) (hn:∀J,ILe I J→∀x∈l,∀vs,Enc.rd J vs x→FnV Tryz.prog fn #[.agg vs.toArray] J (.string (nm x))) :
    FnV Tryz.prog 217 #[v,.func (.func fn) #[] #[],.string s] I (.int .i64 (a5f (fun x=>decide (nm x=s)) l)):=by
 refine enter Tryz.func217 Tryz.call217 rfl Tryz.ntmps217 rfl (fun w0=>?_);refine go 3 ?_;refine a0B _ rfl rfl rfl (fun g4=>?_);refine go 1 ?_;refine a0B _ rfl rfl rfl (fun g5=>?_);refine go 6 ?_;refine a0f ?_;refine a1Q (fun Ig4 jg4 cg4=>?_);refine a1Q (fun Ig5 jg5 cg5=>?_);refine o_v rfl (a1i rfl rfl) ?_;refine go 1 ?_;refine a0d (b0e _ v l (hv.le (jg4.trans jg5)) _ [.pointer (some ⟨g4,0,none⟩),.pointer (some ⟨g5,0,none⟩)] (fun x=>decide (nm x=s)) (fun x hx vs hr=>b4o _ x vs hr fn nm s (hn _ (jg4.trans jg5) x hx vs hr) g4 g5 (cg4.le jg5) cg5)) rfl rfl ?_;refine go 4 ?_;refine a0s rfl rfl ?_;exact c7J rfl
theorem b4p (I:IMap) (k:Slot) (vs:List Value) (h:Enc.rd I vs k) (fn:FuncId) (nm:Slot→ByteArray) (s:ByteArray) (hn:FnV Tryz.prog fn #[.agg vs.toArray] I (.string (nm k))) (g1 g2:Nat) (c1:ICells I g1 0 [.func (.func fn) #[] #[]]) (c2:ICells I g2 0 [.string s]) :
    FnV Tryz.prog 320 #[.agg vs.toArray,.pointer (some ⟨g1,0,none⟩),.pointer (some ⟨g2,0,none⟩)] I (.bool (decide (nm k=s))):=by
 have hl:=Enc.len h
 refine enter Tryz.func320 Tryz.call320 rfl Tryz.ntmps320 rfl (fun w0=>?_);refine go 3 ?_;refine a0B _ rfl rfl rfl (fun g3=>?_);refine go 4 ?_;refine a0F T.mixed ?_;refine a0e 0 rfl rfl (by kernel_rfl) rfl (.refl _) rfl (a0K he rfl (c1 0 _ rfl)) ?_;refine a0e 1 rfl rfl (by kernel_rfl) rfl (.refl _) rfl (a3U m0 he rfl hl) ?_;refine a0e 3 rfl rfl (by kernel_rfl) rfl (.refl _) rfl (a0K he rfl (c2 0 _ rfl)) ?_;refine a0m 2 (by kernel_rfl) rfl ?_;refine a0d (hn) rfl rfl ?_;refine a0D (fun _ m=>m.keeps (.refl _)) ?_;refine a0e 4 rfl rfl (by kernel_rfl) rfl (.refl _) rfl (a5E rfl rfl) ?_;refine a0e 5 rfl rfl (by kernel_rfl) rfl (.refl _) rfl (a0Y rfl) ?_;refine a0n (by kernel_rfl) ?_;refine go 2 ?_;refine a0s rfl rfl ?_;exact q_v rfl
theorem b7g (I:IMap) (v:Value) (l:List Slot) (hv:RdS I v l) (fn:FuncId) (nm:Slot→ByteArray) (s:ByteArray) (hn:∀J,ILe I J→∀x∈l,∀vs,Enc.rd J vs x→FnV Tryz.prog fn #[.agg vs.toArray] J (.string (nm x))) :
    FnV Tryz.prog 267 #[v,.func (.func fn) #[] #[],.string s] I (.int .i64 (a5f (fun x=>decide (nm x=s)) l)):=by
 refine enter Tryz.func267 Tryz.call267 rfl Tryz.ntmps267 rfl (fun w0=>?_);refine go 3 ?_;refine a0B _ rfl rfl rfl (fun g4=>?_);refine go 1 ?_;refine a0B _ rfl rfl rfl (fun g5=>?_);refine go 6 ?_;refine a0f ?_;refine a1Q (fun Ig4 jg4 cg4=>?_);refine a1Q (fun Ig5 jg5 cg5=>?_);refine o_v rfl (a1i rfl rfl) ?_;refine go 1 ?_;refine a0d (b0g _ v l (hv.le (jg4.trans jg5)) _ [.pointer (some ⟨g4,0,none⟩),.pointer (some ⟨g5,0,none⟩)] (fun x=>decide (nm x=s)) (fun x hx vs hr=>b4p _ x vs hr fn nm s (hn _ (jg4.trans jg5) x hx vs hr) g4 g5 (cg4.le jg5) cg5)) rfl rfl ?_;refine go 4 ?_;refine a0s rfl rfl ?_;exact c7J rfl
theorem b1q (I:IMap) (v:Value) (l:List Kind) (hv:RdS I v l) (s:ByteArray) :
    FnE Tryz.prog 149 #[.agg #[v],.string s] I (KindIs I (a2y l s)):=by
 refine enter Tryz.func149 Tryz.call149 rfl Tryz.ntmps149 rfl (fun w0=>?_);refine go 3 ?_;refine a0B _ rfl rfl rfl (fun g2=>?_);refine go 1 ?_;refine a0j he rfl (fun g4=>?_);refine go 9 ?_;refine a0d (b7f I _ l hv _ Kind.name s (fun J hJ x _ vs hr=>c2G J x vs hr)) rfl rfl ?_;refine go 10 ?_;refine cb rfl (fun h12 p12=>?_) (fun h12 p12=>?_)
 ·have hN:=((a2z (fun x=>decide (Kind.name x=s)) l).resolve_right (by rintro⟨i,hi,e,_⟩;omega)).2
  refine go 3 ?_;refine a0t rfl (a0H (pl:=[(0,1),(1,1),(2,1)]) he he rfl rfl) ?_;refine go 1 ?_;refine a0p _ he rfl rfl rfl rfl rfl rfl ?_;refine go 5 ?_;refine a1F rfl ⟨_,_,_,rfl,m0,.inr ⟨_,he,rfl,rfl⟩⟩ rfl ?_;exact q_e (KindIs.none hN)
 ·obtain⟨i,hi,ei,hF⟩:=(a2z (fun x=>decide (Kind.name x=s)) l).resolve_left (fun h=>by omega);refine go 7 ?_;obtain⟨A,c0,rfl,hA,hc,hm⟩:=hv;obtain⟨b17,o17,w17,e17,c17,r17⟩:=RdA.at_ hA (i:=i) hi;obtain⟨q17,rfl,B17,d17,rfl,hB17,hd17,hm17⟩:=r17;refine o_v rfl (a0h he rfl rfl e17 (i) ei hi) ?_;refine o_v rfl (a0G he rfl c17 rfl) ?_;refine go 1 ?_;refine a0p _ he rfl rfl rfl rfl rfl rfl ?_;refine go 4 ?_;refine a1F rfl ⟨_,_,_,rfl,m0,.inr ⟨_,he,rfl,rfl⟩⟩ rfl ?_;exact q_e (KindIs.of hF ⟨_,rfl,B17,d17,rfl,hB17,hd17,hm17⟩)
theorem c5A (I:IMap) (v:Value) (l:List Kind) (hv:RdS I v l) (k s:ByteArray) :
    FnE Tryz.prog 220 #[.agg #[v],.string k,.string s] I (SlotIs I (b3z l k s)):=by
 refine enter Tryz.func220 Tryz.call220 rfl Tryz.ntmps220 rfl (fun w0=>?_);refine go 3 ?_;refine a0B _ rfl rfl rfl (fun g3=>?_);refine go 1 ?_;refine a0j he rfl (fun g6=>?_);refine go 8 ?_;refine a2p (b1q I _ l hv k) rfl rfl (fun v14 q14=>?_);obtain⟨vs,rfl,ss,rfl,hsl⟩:=q14;refine go 4 ?_;refine a0j he rfl (fun g8=>?_);refine go 1 ?_;refine a0p _ he rfl rfl rfl rfl rfl (by simp[Kind.cells,hsl.one];exact⟨rfl,rfl⟩) ?_;refine go 9 ?_;refine a0d (b7g I _ _ hsl _ Slot.name s (fun J hJ x _ vs hr=>c3H J x vs hr)) rfl rfl ?_;refine go 10 ?_;refine cb rfl (fun h22 p22=>?_) (fun h22 p22=>?_)
 ·have hN:=((a2z (fun x=>decide (Slot.name x=s)) ((a2y l k).getD a4M).slots).resolve_right (by rintro⟨i,hi,e,_⟩;omega)).2
  refine go 3 ?_;refine a0t rfl (a0H (pl:=[(0,1),(1,1),(2,1)]) he he rfl rfl) ?_;refine go 1 ?_;refine a0f ?_;refine a0p _ he rfl rfl rfl rfl rfl rfl ?_;refine go 5 ?_;refine a1F rfl ⟨_,_,_,rfl,m0,.inr ⟨_,he,rfl,rfl⟩⟩ rfl ?_;exact q_e (SlotIs.none hN)
 ·obtain⟨i,hi,ei,hF⟩:=(a2z (fun x=>decide (Slot.name x=s)) ((a2y l k).getD a4M).slots).resolve_left (fun h=>by omega);obtain⟨A,c0,rfl,hA,hc,hm⟩:=hsl;refine go 7 ?_;obtain⟨b27,o27,w27,e27,c27,r27⟩:=RdA.at_ hA (i:=i) hi;obtain⟨q27,rfl,B27,d27,rfl,hB27,hd27,hm27⟩:=r27;refine o_v rfl (a0h he rfl rfl e27 (i) ei hi) ?_;refine o_v rfl (a0G he rfl c27 rfl) ?_;refine go 1 ?_;refine a0f ?_;refine a0p _ he rfl rfl rfl rfl rfl rfl ?_;refine go 4 ?_;refine a1F rfl ⟨_,_,_,rfl,m0,.inr ⟨_,he,rfl,rfl⟩⟩ rfl ?_;exact q_e (SlotIs.of hF ⟨_,rfl,B27,d27,rfl,hB27,hd27,hm27⟩)
theorem b5k (I:IMap) (v:Value) (l:List Kind) (hv:RdS I v l) (k s p:ByteArray) :
    FnV Tryz.prog 152 #[.agg #[v],.string k,.string s,.string p] I (.bool (a4l l k s p)):=by
 refine enter Tryz.func152 Tryz.call152 rfl Tryz.ntmps152 rfl (fun w0=>?_);refine go 3 ?_;refine a0B _ rfl rfl rfl (fun g4=>?_);refine go 9 ?_;refine a2p (c5A I _ l hv k s) rfl rfl (fun v15 q15=>?_);obtain⟨vs,rfl,ss,rfl,hsl⟩:=q15;refine go 4 ?_;refine a0j he rfl (fun g9=>?_);refine go 1 ?_;refine a0p _ he rfl rfl rfl rfl rfl (by simp[Slot.cells,hsl.one];exact⟨rfl,rfl⟩) ?_;refine go 7 ?_;refine sxb 19 rfl (fun h19 p19=>?_) (fun h19 p19=>?_)
 ·refine go 4 ?_;refine a0R rfl rfl h19 (a0d (a9g I _ _ hsl p) rfl rfl ?_);refine go 5 ?_;refine a0s rfl rfl ?_;exact q_v (congrArg Value.bool (by revert h19;unfold a4l;cases b3z l k s<;>simp))
 ·refine go 9 ?_;refine a0s rfl rfl ?_;exact q_v (congrArg Value.bool (by revert h19;unfold a4l;cases b3z l k s<;>simp))
theorem a6L (I:IMap) (v:Value) (l:List Kind) (hv:RdS I v l) (hs:SmC l) :
    FnV Tryz.prog 85 #[.agg #[v]] I (.bool (a1g l)):=by
 obtain⟨A,c0,rfl,hA,hc,hm⟩:=hv;refine enter Tryz.func85 Tryz.call85 rfl Tryz.ntmps85 rfl (fun w0=>?_);refine go 3 ?_;refine a0B _ rfl rfl rfl (fun g1=>?_);refine go 6 ?_;refine a7h (Value.string) he rfl (fun r14=>?_);refine go 13 ?_
 refine a0Q (α:=Nat) 0 (fun i=>I)
  (fun i=>[(1,.pointer (some ⟨g1,0,none⟩)),(3,.map (some r14)),(16,.slice A l.length c0),(17,.int .i64 (l.length:Int)),(18,.int .i64 (i:Int))])
  (fun i=>[.mp r14 (a2E Value.string (a3e Kind.name (fun k=>Value.bool (!k.vehicle)) (l.take i))),.blk g1 24 [.slice A l.length c0]])
  (fun i=>i≤l.length∧a3h a2W l i=true)
  (fun i=>l.length-i) ⟨Nat.zero_le _,rfl⟩ rfl sb rfl ?_
 intro i ⟨hi,hn⟩;refine go 6 ?_;refine cb rfl (fun h19 p19=>?_) (fun h19 p19=>?_)
 ·have hlt:i<l.length:=by omega
  refine go 6 ?_;obtain⟨b20,o20,w20,e20,c20,r20⟩:=RdA.at_ hA (i:=i) hlt;obtain⟨q20,rfl,B20,d20,rfl,hB20,hd20,hm20⟩:=r20;refine o_v rfl (a0h he rfl rfl e20 (i) (by omega) hlt) ?_;refine o_v rfl (a0G he rfl c20 rfl) ?_;refine go 1 ?_;refine a0j he rfl (fun g5=>?_);refine go 1 ?_;refine a0p _ he rfl rfl rfl rfl rfl rfl ?_;refine go 8 ?_;refine o_v rfl (b3M m1 (a1K he) he he (l[i].name) rfl rfl rfl (c2H _ _ _ _)) ?_;refine go 8 ?_;refine a2I (I':=I) (L':=[(1,.pointer (some ⟨g1,0,none⟩)),(3,.map (some r14)),(16,.slice A l.length c0),(17,.int .i64 (l.length:Int)),(18,.int .i64 (i:Int)),(5,.pointer (some ⟨g5,0,none⟩)),(41,.bool ((hit Kind.name (l.take i) l[i].name || !a2k l[i].name)||decide ((12:Int)<(l[i].slots.length:Nat))))]) (H':=[.blk g5 168 (l[i].cells (.slice B20 l[i].slots.length d20)),.mp r14 (a2E Value.string (a3e Kind.name (fun k=>Value.bool (!k.vehicle)) (l.take i))),.blk g1 24 [.slice A l.length c0]]) ?_ ?_
  ·refine go 3 ?_;refine sxb 30 rfl (fun h30 p30=>?_) (fun h30 p30=>?_)
   ·refine go 13 ?_;exact a0L ⟨rfl,rfl,rfl,rfl,rfl,rfl,(congrArg (fun b=>some (Value.bool b)) (by simp only[h19,h30,bS])),trivial⟩ rfl rfl
   ·refine go 3 ?_;refine a0R rfl rfl h30 (a0d (a7I _ _ (hs _ (List.getElem_mem hlt)).1) rfl rfl ?_);refine go 3 ?_;refine sxb 36 rfl (fun h36 p36=>?_) (fun h36 p36=>?_)
    ·refine go 7 ?_;exact a0L ⟨rfl,rfl,rfl,rfl,rfl,rfl,(congrArg (fun b=>some (Value.bool b)) (by simp only[h19,h30,h36,bS])),trivial⟩ rfl rfl
    ·refine go 7 ?_;exact a0L ⟨rfl,rfl,rfl,rfl,rfl,rfl,(congrArg (fun b=>some (Value.bool b)) (by simp only[h19,h30,h36,bS])),trivial⟩ rfl rfl
  ·refine cb rfl (fun h41 p41=>?_) (fun h41 p41=>?_)
   ·refine go 12 ?_;refine a0s rfl rfl ?_;exact q_v (congrArg Value.bool (by simp only[a1g,a1j hlt (show a2W (l.take i) l[i]=false by simp only[a2W,h41];rfl),bS]))
   ·refine go 5 ?_;refine a7h (Value.string) he rfl (fun r42=>?_);refine go 13 ?_
    refine a0Q (α:=Nat) 0 (fun j=>I)
     (fun j=>[(1,.pointer (some ⟨g1,0,none⟩)),(3,.map (some r14)),(16,.slice A l.length c0),(17,.int .i64 (l.length:Int)),(18,.int .i64 (i:Int)),(5,.pointer (some ⟨g5,0,none⟩)),(8,.map (some r42)),(44,.slice B20 l[i].slots.length d20),(45,.int .i64 (l[i].slots.length:Int)),(46,.int .i64 (j:Int))])
     (fun j=>[.mp r42 (a2E Value.string (a3e Slot.name (fun _=>Value.bool true) (l[i].slots.take j))),.blk g5 168 (l[i].cells (.slice B20 l[i].slots.length d20)),.mp r14 (a2E Value.string (a3e Kind.name (fun k=>Value.bool (!k.vehicle)) (l.take i))),.blk g1 24 [.slice A l.length c0]])
     (fun j=>j≤l[i].slots.length∧a3h (a3I (l.take i)) l[i].slots j=true)
     (fun j=>l[i].slots.length-j) ⟨Nat.zero_le _,rfl⟩ rfl sb rfl ?_
    intro j ⟨hj,hq⟩;refine go 6 ?_;refine cb rfl (fun h47 p47=>?_) (fun h47 p47=>?_)
    ·have hltj:j<l[i].slots.length:=by omega
     refine go 6 ?_;obtain⟨b48,o48,w48,e48,c48,r48⟩:=RdA.at_ hB20 (i:=j) hltj;obtain⟨q48,rfl,B48,d48,rfl,hB48,hd48,hm48⟩:=r48;refine o_v rfl (a0h he rfl rfl e48 (j) (by omega) hltj) ?_;refine o_v rfl (a0G he rfl c48 rfl) ?_;refine go 1 ?_;refine a0j he rfl (fun g10=>?_);refine go 1 ?_;refine a0p _ he rfl rfl rfl rfl rfl rfl ?_;refine go 4 ?_;refine a2I (I':=I) (L':=[(1,.pointer (some ⟨g1,0,none⟩)),(3,.map (some r14)),(16,.slice A l.length c0),(17,.int .i64 (l.length:Int)),(18,.int .i64 (i:Int)),(5,.pointer (some ⟨g5,0,none⟩)),(8,.map (some r42)),(44,.slice B20 l[i].slots.length d20),(45,.int .i64 (l[i].slots.length:Int)),(46,.int .i64 (j:Int)),(10,.pointer (some ⟨g10,0,none⟩)),(72,.bool (((hit Slot.name (l[i].slots.take j) l[i].slots[j].name || !a2k l[i].slots[j].name)||decide (l[i].slots[j].normal<1))||decide ((l[i].slots[j].kinds.length:Int)<l[i].slots[j].normal)))]) (H':=[.blk g10 170 (l[i].slots[j].cells (.slice B48 l[i].slots[j].kinds.length d48)),.mp r42 (a2E Value.string (a3e Slot.name (fun _=>Value.bool true) (l[i].slots.take j))),.blk g5 168 (l[i].cells (.slice B20 l[i].slots.length d20)),.mp r14 (a2E Value.string (a3e Kind.name (fun k=>Value.bool (!k.vehicle)) (l.take i))),.blk g1 24 [.slice A l.length c0]]) ?_ ?_
     ·refine go 4 ?_;refine o_v rfl (c1t m1 (a1K he) he he (l[i].slots[j].name) rfl rfl (a8E _ _ _)) ?_;refine go 1 ?_;refine sxb 54 rfl (fun h54 p54=>?_) (fun h54 p54=>?_)
      ·refine go 20 ?_;exact a0L ⟨rfl,rfl,rfl,rfl,rfl,rfl,rfl,rfl,rfl,rfl,rfl,(congrArg (fun b=>some (Value.bool b)) (by simp only[h47,h54,bS])),trivial⟩ rfl rfl
      ·refine go 3 ?_;refine a0R rfl rfl h54 (a0d (a7I _ _ ((hs _ (List.getElem_mem hlt)).2 _ (List.getElem_mem hltj)).1) rfl rfl ?_);refine go 3 ?_;refine sxb 60 rfl (fun h60 p60=>?_) (fun h60 p60=>?_)
       ·refine go 14 ?_;exact a0L ⟨rfl,rfl,rfl,rfl,rfl,rfl,rfl,rfl,rfl,rfl,rfl,(congrArg (fun b=>some (Value.bool b)) (by simp only[h47,h54,h60,bS])),trivial⟩ rfl rfl
       ·refine go 5 ?_;refine sxb 65 rfl (fun h65 p65=>?_) (fun h65 p65=>?_)
        ·refine go 9 ?_;exact a0L ⟨rfl,rfl,rfl,rfl,rfl,rfl,rfl,rfl,rfl,rfl,rfl,(congrArg (fun b=>some (Value.bool b)) (by simp only[h47,h54,h60,h65,bS])),trivial⟩ rfl rfl
        ·refine go 9 ?_;exact a0L ⟨rfl,rfl,rfl,rfl,rfl,rfl,rfl,rfl,rfl,rfl,rfl,(congrArg (fun b=>some (Value.bool b)) (by simp only[h47,h54,h60,h65,bS])),trivial⟩ rfl rfl
     ·refine cb rfl (fun h72 p72=>?_) (fun h72 p72=>?_)
      ·refine go 17 ?_;refine a0s rfl rfl ?_;exact q_v (congrArg Value.bool (by simp only[a1g,a1j hlt (show a2W (l.take i) l[i]=false by simp only[a2W,a1j hltj (show a3I (l.take i) (l[i].slots.take j) l[i].slots[j]=false by simp only[a3I,h72];rfl),bS]),bS]))
      ·refine go 8 ?_
       have h72n:hit Slot.name (l[i].slots.take j) l[i].slots[j].name=false:=by revert h72;cases hit Slot.name (l[i].slots.take j) l[i].slots[j].name<;>simp
       refine a0f ?_;refine a4w (a3e Slot.name (fun _=>Value.bool true) (l[i].slots.take (j+1))) (a1K he) he (l[i].slots[j].name) rfl rfl rfl ((a9u Slot.name (fun _=>Value.bool true) (l[i].slots.take j) l[i].slots[j] (a6Y h72n)).trans (by rw[a0i hltj])) ?_;refine go 5 ?_;refine a7h (Value.string) he rfl (fun r76=>?_);refine go 12 ?_;refine a0o ?_;refine a0b ?_
       refine a0Q (α:=Nat) 0 (fun m=>I)
        (fun m=>[(1,.pointer (some ⟨g1,0,none⟩)),(3,.map (some r14)),(16,.slice A l.length c0),(17,.int .i64 (l.length:Int)),(18,.int .i64 (i:Int)),(5,.pointer (some ⟨g5,0,none⟩)),(8,.map (some r42)),(44,.slice B20 l[i].slots.length d20),(45,.int .i64 (l[i].slots.length:Int)),(46,.int .i64 (j:Int)),(10,.pointer (some ⟨g10,0,none⟩)),(11,.map (some r76)),(78,.slice B48 l[i].slots[j].kinds.length d48),(79,.int .i64 (l[i].slots[j].kinds.length:Int)),(80,.int .i64 (m:Int))])
        (fun m=>[.mp r76 (a2E Value.string (a3e _root_.id (fun _=>Value.bool true) (l[i].slots[j].kinds.take m))),.mp r42 (a2E Value.string (a3e Slot.name (fun _=>Value.bool true) (l[i].slots.take (j+1)))),.blk g5 168 (l[i].cells (.slice B20 l[i].slots.length d20)),.mp r14 (a2E Value.string (a3e Kind.name (fun k=>Value.bool (!k.vehicle)) (l.take i))),.blk g1 24 [.slice A l.length c0]])
        (fun m=>m≤l[i].slots[j].kinds.length∧a3h (a7c (l.take i)) l[i].slots[j].kinds m=true)
        (fun m=>l[i].slots[j].kinds.length-m) ⟨Nat.zero_le _,rfl⟩ rfl sb rfl ?_
       intro m ⟨hmm,hr⟩;refine go 6 ?_;refine cb rfl (fun h81 p81=>?_) (fun h81 p81=>?_)
       ·have hltm:m<l[i].slots[j].kinds.length:=by omega
        refine go 6 ?_;obtain⟨b82,o82,w82,e82,c82,r82⟩:=RdA.at_ hB48 (i:=m) hltm;obtain rfl:=r82;refine o_v rfl (a0h he rfl rfl e82 (m) (by omega) hltm) ?_;refine o_v rfl (a0K he rfl (c82 0 _ rfl)) ?_;refine go 5 ?_;refine a2I (I':=I) (L':=[(1,.pointer (some ⟨g1,0,none⟩)),(3,.map (some r14)),(16,.slice A l.length c0),(17,.int .i64 (l.length:Int)),(18,.int .i64 (i:Int)),(5,.pointer (some ⟨g5,0,none⟩)),(8,.map (some r42)),(44,.slice B20 l[i].slots.length d20),(45,.int .i64 (l[i].slots.length:Int)),(46,.int .i64 (j:Int)),(10,.pointer (some ⟨g10,0,none⟩)),(11,.map (some r76)),(78,.slice B48 l[i].slots[j].kinds.length d48),(79,.int .i64 (l[i].slots[j].kinds.length:Int)),(80,.int .i64 (m:Int)),(13,.string l[i].slots[j].kinds[m]),(92,.bool (hit _root_.id (l[i].slots[j].kinds.take m) l[i].slots[j].kinds[m] || !c5Z Kind.name (fun k=>!k.vehicle) (l.take i) l[i].slots[j].kinds[m]))]) (H':=[.mp r76 (a2E Value.string (a3e _root_.id (fun _=>Value.bool true) (l[i].slots[j].kinds.take m))),.mp r42 (a2E Value.string (a3e Slot.name (fun _=>Value.bool true) (l[i].slots.take (j+1)))),.blk g5 168 (l[i].cells (.slice B20 l[i].slots.length d20)),.mp r14 (a2E Value.string (a3e Kind.name (fun k=>Value.bool (!k.vehicle)) (l.take i))),.blk g1 24 [.slice A l.length c0]]) ?_ ?_
        ·refine go 3 ?_;refine o_v rfl (c1t m0 (a1K he) he he (l[i].slots[j].kinds[m]) rfl rfl (a8E _root_.id _ _)) ?_;refine go 1 ?_;refine sxb 87 rfl (fun h87 p87=>?_) (fun h87 p87=>?_)
         ·refine go 7 ?_;exact a0L ⟨rfl,rfl,rfl,rfl,rfl,rfl,rfl,rfl,rfl,rfl,rfl,rfl,rfl,rfl,rfl,rfl,(congrArg (fun b=>some (Value.bool b)) (by simp only[h81,h87,bS])),trivial⟩ rfl rfl
         ·refine go 2 ?_;refine a1d (a0R rfl rfl h87 (a0t rfl (c1t m3 (a1K he) he he (l[i].slots[j].kinds[m]) rfl rfl (c6i Kind.name (fun k=>!k.vehicle) _ _)) ?_));refine go 4 ?_;exact a0L ⟨rfl,rfl,rfl,rfl,rfl,rfl,rfl,rfl,rfl,rfl,rfl,rfl,rfl,rfl,rfl,rfl,(congrArg (fun b=>some (Value.bool b)) (by simp only[h81,h87,bS])),trivial⟩ rfl rfl
        ·refine cb rfl (fun h92 p92=>?_) (fun h92 p92=>?_)
         ·refine go 21 ?_;refine a0s rfl rfl ?_;exact q_v (congrArg Value.bool (by simp only[a1g,a1j hlt (show a2W (l.take i) l[i]=false by simp only[a2W,a1j hltj (show a3I (l.take i) (l[i].slots.take j) l[i].slots[j]=false by simp only[a3I,a1j hltm (show a7c (l.take i) (l[i].slots[j].kinds.take m) l[i].slots[j].kinds[m]=false by revert h92;simp only[a7c];cases hit _root_.id (l[i].slots[j].kinds.take m) l[i].slots[j].kinds[m]<;>simp),bS]),bS]),bS]))
         ·refine go 6 ?_
          have h92n:hit _root_.id (l[i].slots[j].kinds.take m) l[i].slots[j].kinds[m]=false:=by revert h92;cases hit _root_.id (l[i].slots[j].kinds.take m) l[i].slots[j].kinds[m]<;>simp
          refine a4w (a3e _root_.id (fun _=>Value.bool true) (l[i].slots[j].kinds.take (m+1))) (a1K he) he (l[i].slots[j].kinds[m]) rfl rfl rfl ((a9u _root_.id (fun _=>Value.bool true) (l[i].slots[j].kinds.take m) l[i].slots[j].kinds[m] (a6Y h92n)).trans (by rw[a0i hltm])) ?_;refine go 8 ?_;exact a0M (m+1) ⟨by omega,a1v hr hltm (by revert h92;simp only[a7c];cases hit _root_.id (l[i].slots[j].kinds.take m) l[i].slots[j].kinds[m]<;>simp)⟩ (by omega) rfl sb rfl
       ·refine go 11 ?_;refine a0b ?_;exact a0M (j+1) ⟨by omega,a1v hq hltj (by simp only[a3I,h72,(show m=l[i].slots[j].kinds.length by omega)▸hr];rfl)⟩ (by omega) rfl sb rfl
    ·refine go 13 ?_
     have h41n:hit Kind.name (l.take i) l[i].name=false:=by revert h41;cases hit Kind.name (l.take i) l[i].name<;>simp
     refine a0o ?_;refine a4w (a3e Kind.name (fun k=>Value.bool (!k.vehicle)) (l.take (i+1))) (a1K he) he (l[i].name) rfl rfl rfl ((a9u Kind.name (fun k=>Value.bool (!k.vehicle)) (l.take i) l[i] (a6Y h41n)).trans (by rw[a0i hlt])) ?_;refine go 8 ?_;refine a0f ?_;refine a0b ?_;refine a0f ?_;refine a0b ?_;exact a0M (i+1) ⟨by omega,a1v hn hlt (by simp only[a2W,h41,(show j=l[i].slots.length by omega)▸hq];rfl)⟩ (by omega) rfl sb rfl
 ·refine go 15 ?_;refine a0s rfl rfl ?_
  have e:i=l.length:=(by omega)
  subst e;exact q_v (congrArg Value.bool (by simp only[a1g,hn,bS]))
theorem a6C (I:IMap) (v:Value) (l:List Kind) (hv:RdS I v l) (s:ByteArray) :
    FnE Tryz.prog 179 #[.agg #[v],.string s] I (KindIs I (a2y l s)):=by
 obtain⟨A,c0,rfl,hA,hc,hm⟩:=hv;refine enter Tryz.func179 Tryz.call179 rfl Tryz.ntmps179 rfl (fun w0=>?_);refine go 3 ?_;refine a0B _ rfl rfl rfl (fun g2=>?_);refine go 1 ?_;refine a0j he rfl (fun g4=>?_);refine go 10 ?_;refine a0f ?_
 refine a0Q (α:=Nat) 0 (fun i=>I)
  (fun i=>[(1,.string s),(2,.pointer (some ⟨g2,0,none⟩)),(4,.pointer (some ⟨g4,0,none⟩)),(6,.int .i64 (i:Int))])
  (fun i=>[.blk g2 24 [.slice A l.length c0],.blk g4 168 [.string ⟨#[]⟩,.bool false,.slice none 0 0]])
  (fun i=>i≤l.length∧∀j x,j<i→l[j]? = some x→(fun k=>decide (Kind.name k=s)) x=false)
  (fun i=>l.length-i) ⟨Nat.zero_le _,fun j x hj=>absurd hj (Nat.not_lt_zero j)⟩ rfl sb rfl ?_
 intro i ⟨hi,hn⟩;refine go 10 ?_;refine cb rfl (fun h11 p11=>?_) (fun h11 p11=>?_)
 ·have hlt:i<l.length:=by omega
  refine go 9 ?_;obtain⟨b17,o17,w17,e17,c17,r17⟩:=RdA.at_ hA (i:=i) hlt;obtain⟨q17,rfl,B17,d17,rfl,hB17,hd17,hm17⟩:=r17;refine o_v rfl (a0h he rfl rfl e17 (i) (by omega) hlt) ?_;refine go 1 ?_;refine o_v rfl (a0K he rfl (c17 0 _ rfl)) ?_;refine go 4 ?_;refine cb rfl (fun h21 p21=>?_) (fun h21 p21=>?_)
  ·refine go 5 ?_;obtain⟨b25,o25,w25,e25,c25,r25⟩:=RdA.at_ hA (i:=i) hlt;obtain⟨q25,rfl,B25,d25,rfl,hB25,hd25,hm25⟩:=r25;refine o_v rfl (a0h he rfl rfl e25 (i) (by omega) hlt) ?_;refine o_v rfl (a0G he rfl c25 rfl) ?_;refine go 1 ?_;refine a0f ?_;refine a0p _ he rfl rfl rfl rfl rfl rfl ?_;refine go 9 ?_;refine a1F rfl ⟨_,_,_,rfl,m0,.inr ⟨_,he,rfl,rfl⟩⟩ rfl ?_;exact q_e (KindIs.of (b9b (p:=fun k=>decide (Kind.name k=s)) hlt h21 hn) ⟨_,rfl,B25,d25,rfl,hB25,hd25,hm25⟩)
  ·refine go 9 ?_;exact a0M (i+1) ⟨by omega,a2V (p:=fun k=>decide (Kind.name k=s)) hn hlt h21⟩ (by omega) rfl sb rfl
 ·refine go 8 ?_;refine a0t rfl (a0H (pl:=[(0,1),(1,1),(2,1)]) he he rfl rfl) ?_;refine go 1 ?_;refine a0f ?_;refine a0p _ he rfl rfl rfl rfl rfl rfl ?_;refine go 4 ?_;refine a1F rfl ⟨_,_,_,rfl,m0,.inr ⟨_,he,rfl,rfl⟩⟩ rfl ?_;exact q_e (KindIs.none (b9c (p:=fun k=>decide (Kind.name k=s)) (fun j x hj=>hn j x (by omega))))
theorem c6S (I:IMap) (v:Value) (l:List Kind) (hv:RdS I v l) (x:Slot) (D:Option Addr) (d:Nat) (hD:RdS I (.slice D x.kinds.length d) x.kinds) (hs:SmS x) :
    FnV Tryz.prog 180 #[.agg #[v],.agg #[.string x.name,.slice D x.kinds.length d,.int .i64 x.normal]] I (.bool (b4S l x)):=by
 have hDA:RdA I D x.kinds:=(by obtain⟨_,_,e,h,_⟩:=hD;cases e;exact h)
 have hDl:x.kinds.length≤d∧d≤9223372036854775807:=(by obtain⟨_,_,e,h,h1,h2⟩:=hD;cases e;exact⟨h1,h2⟩)
 have hv0:=hv
 obtain⟨A,c0,rfl,hA,hc,hm⟩:=hv;refine enter Tryz.func180 Tryz.call180 rfl Tryz.ntmps180 rfl (fun w0=>?_);refine go 3 ?_;refine a0B _ rfl rfl rfl (fun g2=>?_);refine go 1 ?_;refine a0B _ rfl rfl rfl (fun g3=>?_);refine go 5 ?_;refine a2I (I':=I) (L':=[(2,.pointer (some ⟨g2,0,none⟩)),(3,.pointer (some ⟨g3,0,none⟩)),(24,.bool (((!a2e x.name||decide (x.normal<1))||decide ((x.kinds.length:Int)<x.normal))))]) (H':=[.blk g2 24 [.slice A l.length c0],.blk g3 170 (x.cells (.slice D x.kinds.length d))]) ?_ ?_
 ·refine go 4 ?_;refine a0d (a7e _ _ hs.1) rfl rfl ?_;refine go 2 ?_;refine sxb 12 rfl (fun h12 p12=>?_) (fun h12 p12=>?_)
  ·refine go 14 ?_;refine a0f ?_;exact a0L ⟨rfl,rfl,(congrArg (fun b=>some (Value.bool b)) (by simp only[h12,bS])),trivial⟩ rfl rfl
  ·refine go 5 ?_;refine sxb 17 rfl (fun h17 p17=>?_) (fun h17 p17=>?_)
   ·refine go 9 ?_;refine a0f ?_;exact a0L ⟨rfl,rfl,(congrArg (fun b=>some (Value.bool b)) (by simp only[h12,h17,bS])),trivial⟩ rfl rfl
   ·refine go 9 ?_;refine a0f ?_;exact a0L ⟨rfl,rfl,(congrArg (fun b=>some (Value.bool b)) (by simp only[h12,h17,bS])),trivial⟩ rfl rfl
 ·refine cb rfl (fun h24 p24=>?_) (fun h24 p24=>?_)
  ·refine go 7 ?_;refine a0s rfl rfl ?_;exact q_v (congrArg Value.bool (by simp only[b4S,h24];rfl))
  ·refine go 9 ?_
   refine a0Q (α:=Nat) 0 (fun j=>I)
    (fun j=>[(2,.pointer (some ⟨g2,0,none⟩)),(3,.pointer (some ⟨g3,0,none⟩)),(5,.int .i64 (j:Int))])
    (fun j=>[.blk g2 24 [.slice A l.length c0],.blk g3 170 (x.cells (.slice D x.kinds.length d))])
    (fun j=>j≤x.kinds.length∧a3h (a5z l) x.kinds j=true)
    (fun j=>x.kinds.length-j) ⟨Nat.zero_le _,rfl⟩ rfl sb rfl ?_
   intro j ⟨hj,hq⟩;refine go 10 ?_;refine cb rfl (fun h29 p29=>?_) (fun h29 p29=>?_)
   ·have hlt:j<x.kinds.length:=by omega
    refine go 5 ?_;refine a5d (α:=Nat×Value) (Ix:=(fun q=>I)) (Lx:=(fun q=>[(2,.pointer (some ⟨g2,0,none⟩)),(3,.pointer (some ⟨g3,0,none⟩)),(5,.int .i64 (j:Int)),(6,.pointer (some ⟨q.1,0,none⟩)),(7,.bool (a2y l x.kinds[j]).isSome)])) (Hx:=(fun q=>[.blk q.1 168 (((a2y l x.kinds[j]).getD a4M).cells q.2),.blk g2 24 [.slice A l.length c0],.blk g3 170 (x.cells (.slice D x.kinds.length d))])) (p:=(fun q=>RdS I q.2 ((a2y l x.kinds[j]).getD a4M).slots)) ?_ ?_
    ·refine a0F T.mixed ?_;refine a0e 0 rfl rfl (by kernel_rfl) rfl (.refl _) rfl (a3U m0 he rfl rfl) ?_;refine a0e 1 rfl rfl (by kernel_rfl) rfl (.refl _) rfl (a0g he rfl) ?_;refine a0e 2 rfl rfl (by kernel_rfl) rfl (.refl _) rfl (a2H m1 he rfl rfl) ?_;refine a0e 3 rfl rfl (by kernel_rfl) rfl (.refl _) rfl (a0a rfl) ?_;obtain⟨b37,o37,w37,e37,c37,r37⟩:=RdA.at_ hDA (i:=j) hlt;obtain rfl:=r37;refine a0e 4 rfl rfl (by kernel_rfl) rfl (.refl _) rfl (a0h he rfl rfl e37 (j) (by omega) hlt) ?_;refine a0e 5 rfl rfl (by kernel_rfl) rfl (.refl _) rfl (a0K he rfl (c37 0 _ rfl)) ?_;refine a3O 6 10 (by kernel_rfl) rfl rfl ?_ ?_
     ·refine a2p (a6C I _ l hv0 x.kinds[j]) rfl rfl (fun v39 q39=>?_);obtain⟨vs,rfl,ss,rfl,hsl⟩:=q39;refine a0D (fun _ m=>m.keeps (.refl _)) ?_;refine a0e 7 rfl rfl (by kernel_rfl) rfl (.refl _) rfl (a0a rfl) ?_;refine a0e 8 rfl rfl (by kernel_rfl) rfl (.refl _) rfl (a1C rfl rfl) ?_;refine a0e 9 rfl rfl (by kernel_rfl) rfl (.refl _) rfl (a1C rfl rfl) ?_;refine a0m 10 (by kernel_rfl) rfl ?_;refine a0j he rfl (fun g6=>?_);refine a0D (fun _ m=>m.keeps (.cons _ (.refl _))) ?_;refine a0m 11 (by kernel_rfl) rfl ?_;refine a0p _ he rfl rfl rfl rfl rfl (by simp[Kind.cells,hsl.one];exact⟨rfl,rfl⟩) ?_;refine a0D (fun _ m=>m.keeps (.cons _ (.refl _))) ?_;refine a0e 12 rfl rfl (by kernel_rfl) rfl (.cons _ (.refl _)) rfl (a0Y rfl) ?_;refine a0n (by kernel_rfl) ?_;refine go 1 ?_;exact a2a (_,ss) hsl sb rfl rfl
     ·refine a0j he rfl (fun g6=>?_);refine a0D (fun _ m=>m.keeps (.cons _ (.refl _))) ?_;refine a0m 6 (by kernel_rfl) rfl ?_;refine a2p (a6C I _ l hv0 x.kinds[j]) rfl rfl (fun v39 q39=>?_);obtain⟨vs,rfl,ss,rfl,hsl⟩:=q39;refine a0D (fun _ m=>m.keeps (.cons _ (.refl _))) ?_;refine a0e 7 rfl rfl (by kernel_rfl) rfl (.cons _ (.refl _)) rfl (a0a rfl) ?_;refine a0e 8 rfl rfl (by kernel_rfl) rfl (.cons _ (.refl _)) rfl (a1C rfl rfl) ?_;refine a0e 9 rfl rfl (by kernel_rfl) rfl (.cons _ (.refl _)) rfl (a1C rfl rfl) ?_;refine a0m 11 (by kernel_rfl) rfl ?_;refine a0p _ he rfl rfl rfl rfl rfl (by simp[Kind.cells,hsl.one];exact⟨rfl,rfl⟩) ?_;refine a0D (fun _ m=>m.keeps (.cons _ (.refl _))) ?_;refine a0e 12 rfl rfl (by kernel_rfl) rfl (.cons _ (.refl _)) rfl (a0Y rfl) ?_;refine a0n (by kernel_rfl) ?_;refine go 1 ?_;exact a2a (_,ss) hsl sb rfl rfl
    ·rintro⟨g6,ss⟩ hsl;refine go 1 ?_;refine a2I (I':=I) (L':=[(2,.pointer (some ⟨g2,0,none⟩)),(3,.pointer (some ⟨g3,0,none⟩)),(5,.int .i64 (j:Int)),(59,.bool (((!(a2y l x.kinds[j]).isSome||((a2y l x.kinds[j]).getD a4M).vehicle)||decide (x.kinds[j]∈x.kinds.take j))))]) (H':=[.blk g2 24 [.slice A l.length c0],.blk g3 170 (x.cells (.slice D x.kinds.length d))]) ?_ ?_
     ·refine a0F T.mixed ?_;refine a0e 0 rfl rfl (by kernel_rfl) rfl (.refl _) rfl (a0a rfl) ?_;refine a0e 1 rfl rfl (by kernel_rfl) rfl (.refl _) rfl (a8x rfl) ?_;refine a0e 2 rfl rfl (by kernel_rfl) rfl (.refl _) rfl (a0a rfl) ?_;refine sxb 44 rfl (fun h44 p44=>?_) (fun h44 p44=>?_)
      ·refine d_t 3 rfl rfl (by kernel_rfl) rfl (fun _ m=>m.keeps (.refl _)) (a0A rfl rfl h44) ?_;refine d_t 4 rfl rfl (by kernel_rfl) rfl (fun _ m=>m.keeps (.refl _)) (a0A rfl rfl h44) ?_;refine a0e 5 rfl rfl (by kernel_rfl) rfl (.refl _) rfl (a2s h44 rfl) ?_;refine a0e 6 rfl rfl (by kernel_rfl) rfl (.refl _) rfl (a0a rfl) ?_;refine d_t 7 rfl rfl (by kernel_rfl) rfl (fun _ m=>m.keeps (.refl _)) (a0A rfl rfl rfl) ?_;refine d_t 8 rfl rfl (by kernel_rfl) rfl (fun _ m=>m.keeps (.refl _)) (a0A rfl rfl rfl) ?_;refine d_t 9 rfl rfl (by kernel_rfl) rfl (fun _ m=>m.keeps (.refl _)) (a0A rfl rfl rfl) ?_;refine d_t 10 rfl rfl (by kernel_rfl) rfl (fun _ m=>m.keeps (.refl _)) (a0A rfl rfl rfl) ?_;refine d_t 11 rfl rfl (by kernel_rfl) rfl (fun _ m=>m.keeps (.refl _)) (a0A rfl rfl rfl) ?_;refine d_t 12 rfl rfl (by kernel_rfl) rfl (fun _ m=>m.keeps (.refl _)) (a0A rfl rfl rfl) ?_;refine d_t 13 rfl rfl (by kernel_rfl) rfl (fun _ m=>m.keeps (.refl _)) (a0A rfl rfl rfl) ?_;refine d_t 14 rfl rfl (by kernel_rfl) rfl (fun _ m=>m.keeps (.refl _)) (a0A rfl rfl rfl) ?_;refine d_t 15 rfl rfl (by kernel_rfl) rfl (fun _ m=>m.keeps (.refl _)) (a0A rfl rfl rfl) ?_;refine d_t 16 rfl rfl (by kernel_rfl) rfl (fun _ m=>m.keeps (.refl _)) (a0A rfl rfl rfl) ?_;refine a0e 17 rfl rfl (by kernel_rfl) rfl (.refl _) rfl (a2s rfl rfl) ?_;refine a0n (by kernel_rfl) ?_;refine go 1 ?_;refine a0b ?_;exact a0L ⟨rfl,rfl,rfl,(congrArg (fun b=>some (Value.bool b)) (by simp only[h44,bS])),trivial⟩ rfl rfl
      ·refine d_t 3 rfl rfl (by kernel_rfl) rfl (fun _ m=>m.keeps (.refl _)) (a0k rfl rfl h44 (a0g he rfl)) ?_;refine d_t 4 rfl rfl (by kernel_rfl) rfl (fun _ m=>m.keeps (.refl _)) (a0k rfl rfl h44 (a2H m0 he rfl rfl)) ?_;refine a0e 5 rfl rfl (by kernel_rfl) rfl (.refl _) rfl (a3b h44 rfl rfl) ?_;refine a0e 6 rfl rfl (by kernel_rfl) rfl (.refl _) rfl (a0a rfl) ?_;refine sxb 48 rfl (fun h48 p48=>?_) (fun h48 p48=>?_)
       ·refine d_t 7 rfl rfl (by kernel_rfl) rfl (fun _ m=>m.keeps (.refl _)) (a0A rfl rfl h48) ?_;refine d_t 8 rfl rfl (by kernel_rfl) rfl (fun _ m=>m.keeps (.refl _)) (a0A rfl rfl h48) ?_;refine d_t 9 rfl rfl (by kernel_rfl) rfl (fun _ m=>m.keeps (.refl _)) (a0A rfl rfl h48) ?_;refine d_t 10 rfl rfl (by kernel_rfl) rfl (fun _ m=>m.keeps (.refl _)) (a0A rfl rfl h48) ?_;refine d_t 11 rfl rfl (by kernel_rfl) rfl (fun _ m=>m.keeps (.refl _)) (a0A rfl rfl h48) ?_;refine d_t 12 rfl rfl (by kernel_rfl) rfl (fun _ m=>m.keeps (.refl _)) (a0A rfl rfl h48) ?_;refine d_t 13 rfl rfl (by kernel_rfl) rfl (fun _ m=>m.keeps (.refl _)) (a0A rfl rfl h48) ?_;refine d_t 14 rfl rfl (by kernel_rfl) rfl (fun _ m=>m.keeps (.refl _)) (a0A rfl rfl h48) ?_;refine d_t 15 rfl rfl (by kernel_rfl) rfl (fun _ m=>m.keeps (.refl _)) (a0A rfl rfl h48) ?_;refine d_t 16 rfl rfl (by kernel_rfl) rfl (fun _ m=>m.keeps (.refl _)) (a0A rfl rfl h48) ?_;refine a0e 17 rfl rfl (by kernel_rfl) rfl (.refl _) rfl (a2s h48 rfl) ?_;refine a0n (by kernel_rfl) ?_;refine go 1 ?_;refine a0b ?_;exact a0L ⟨rfl,rfl,rfl,(congrArg (fun b=>some (Value.bool b)) (by simp only[h44,h48,bS])),trivial⟩ rfl rfl
       ·refine d_t 7 rfl rfl (by kernel_rfl) rfl (fun _ m=>m.keeps (.refl _)) (a0k rfl rfl h48 (a0g he rfl)) ?_;refine d_t 8 rfl rfl (by kernel_rfl) rfl (fun _ m=>m.keeps (.refl _)) (a0k rfl rfl h48 (a2H m2 he rfl rfl)) ?_;refine d_t 9 rfl rfl (by kernel_rfl) rfl (fun _ m=>m.keeps (.refl _)) (a0k rfl rfl h48 (a0a rfl)) ?_;refine d_t 10 rfl rfl (by kernel_rfl) rfl (fun _ m=>m.keeps (.refl _)) (a0k rfl rfl h48 (a1w he rfl rfl j (by omega) (by omega))) ?_;refine d_t 11 rfl rfl (by kernel_rfl) rfl (fun _ m=>m.keeps (.refl _)) (a0k rfl rfl h48 (a0g he rfl)) ?_;refine d_t 12 rfl rfl (by kernel_rfl) rfl (fun _ m=>m.keeps (.refl _)) (a0k rfl rfl h48 (a2H m2 he rfl rfl)) ?_;refine d_t 13 rfl rfl (by kernel_rfl) rfl (fun _ m=>m.keeps (.refl _)) (a0k rfl rfl h48 (a0a rfl)) ?_;obtain⟨b56,o56,w56,e56,c56,r56⟩:=RdA.at_ hDA (i:=j) hlt;obtain rfl:=r56;refine d_t 14 rfl rfl (by kernel_rfl) rfl (fun _ m=>m.keeps (.refl _)) (a0k rfl rfl h48 (a0h he rfl rfl e56 (j) (by omega) hlt)) ?_;refine d_t 15 rfl rfl (by kernel_rfl) rfl (fun _ m=>m.keeps (.refl _)) (a0k rfl rfl h48 (a0K he rfl (c56 0 _ rfl))) ?_;refine a0m 16 (by kernel_rfl) rfl ?_;refine a0R rfl rfl h48 (a0d (d0l I _ (x.kinds.take j) x.kinds[j] (hD.take j (by omega))) rfl rfl ?_);refine a0D (fun _ m=>m.keeps (.refl _)) ?_;refine a0e 17 rfl rfl (by kernel_rfl) rfl (.refl _) rfl (a3b h48 rfl rfl) ?_;refine a0n (by kernel_rfl) ?_;refine go 1 ?_;refine a0b ?_;exact a0L ⟨rfl,rfl,rfl,(congrArg (fun b=>some (Value.bool b)) (by simp only[h44,h48,bS])),trivial⟩ rfl rfl
     ·refine cb rfl (fun h59 p59=>?_) (fun h59 p59=>?_)
      ·refine go 11 ?_;refine a0s rfl rfl ?_;exact q_v (congrArg Value.bool (by simp only[b4S,a1j hlt (show a5z l (x.kinds.take j) x.kinds[j]=false by simp only[a5z,h59];rfl),bS]))
      ·refine go 9 ?_;exact a0M (j+1) ⟨by omega,a1v hq hlt (by simp only[a5z,h59];rfl)⟩ (by omega) rfl sb rfl
   ·refine go 11 ?_;refine a0s rfl rfl ?_
    have e:j=x.kinds.length:=(by omega)
    subst e;exact q_v (congrArg Value.bool (by simp only[b4S,hq,h24];rfl))
theorem a8P (I:IMap) (v:Value) (l:List Kind) (hv:RdS I v l) (hs:SmC l) :
    FnV Tryz.prog 110 #[.agg #[v]] I (.bool (a6q l)):=by
 have hv0:=hv
 obtain⟨A,c0,rfl,hA,hc,hm⟩:=hv;refine enter Tryz.func110 Tryz.call110 rfl Tryz.ntmps110 rfl (fun w0=>?_);refine go 3 ?_;refine a0B _ rfl rfl rfl (fun g1=>?_);refine go 12 ?_;refine cb rfl (fun h13 p13=>?_) (fun h13 p13=>?_)
 ·refine go 7 ?_;refine a0s rfl rfl ?_;exact q_v (congrArg Value.bool (by simp only[a6q,h13];rfl))
 ·refine go 9 ?_
  refine a0Q (α:=Nat) 0 (fun i=>I)
   (fun i=>[(1,.pointer (some ⟨g1,0,none⟩)),(3,.int .i64 (i:Int))])
   (fun i=>[.blk g1 24 [.slice A l.length c0]])
   (fun i=>i≤l.length∧a3h a3k l i=true)
   (fun i=>l.length-i) ⟨Nat.zero_le _,rfl⟩ rfl sb rfl ?_
  intro i ⟨hi,hn⟩;refine go 10 ?_;refine cb rfl (fun h18 p18=>?_) (fun h18 p18=>?_)
  ·have hlt:i<l.length:=by omega
   refine go 9 ?_;obtain⟨b24,o24,w24,e24,c24,r24⟩:=RdA.at_ hA (i:=i) hlt;obtain⟨q24,rfl,B24,d24,rfl,hB24,hd24,hm24⟩:=r24;refine o_v rfl (a0h he rfl rfl e24 (i) (by omega) hlt) ?_;refine o_v rfl (a0G he rfl c24 rfl) ?_;refine go 1 ?_;refine a0j he rfl (fun g4=>?_);refine go 1 ?_;refine a0p _ he rfl rfl rfl rfl rfl rfl ?_;refine go 7 ?_;refine o_v rfl (a1w he rfl rfl i (by omega) (by omega)) ?_;refine go 1 ?_;refine a0t rfl (a0H (pl:=[(0,1)]) he he rfl rfl) ?_;refine go 1 ?_;refine a0j he rfl (fun g5=>?_);refine go 1 ?_;refine a0p _ he rfl rfl rfl rfl rfl rfl ?_;refine go 8 ?_;refine a2p (a6C _ _ (l.take i) (hv0.take i (by omega)) l[i].name) rfl rfl (fun v35 q35=>?_);obtain⟨vs,rfl,s35,rfl,hsl⟩:=q35;refine go 4 ?_;refine a0j he rfl (fun g6=>?_);refine go 1 ?_;refine a0p _ he rfl rfl rfl rfl rfl (by simp[Kind.cells,hsl.one];exact⟨rfl,rfl⟩) ?_;refine go 5 ?_;refine a2I (I':=I) (L':=[(1,.pointer (some ⟨g1,0,none⟩)),(3,.int .i64 (i:Int)),(4,.pointer (some ⟨g4,0,none⟩)),(5,.pointer (some ⟨g5,0,none⟩)),(50,.bool (((a2y (l.take i) l[i].name).isSome || !a2e l[i].name)||decide ((12:Int)<(l[i].slots.length:Nat))))]) (H':=[.blk g5 24 [.slice A i c0],.blk g4 168 (l[i].cells (.slice B24 l[i].slots.length d24)),.blk g1 24 [.slice A l.length c0]]) ?_ ?_
   ·refine go 3 ?_;refine sxb 39 rfl (fun h39 p39=>?_) (fun h39 p39=>?_)
    ·refine go 13 ?_;refine a0b ?_;exact a0L ⟨rfl,rfl,rfl,rfl,(congrArg (fun b=>some (Value.bool b)) (by simp only[h18,h39,bS])),trivial⟩ rfl rfl
    ·refine go 3 ?_;refine a0R rfl rfl h39 (a0d (a7e _ _ (hs _ (List.getElem_mem hlt)).1) rfl rfl ?_);refine go 3 ?_;refine sxb 45 rfl (fun h45 p45=>?_) (fun h45 p45=>?_)
     ·refine go 7 ?_;refine a0b ?_;exact a0L ⟨rfl,rfl,rfl,rfl,(congrArg (fun b=>some (Value.bool b)) (by simp only[h18,h39,h45,bS])),trivial⟩ rfl rfl
     ·refine go 7 ?_;refine a0b ?_;exact a0L ⟨rfl,rfl,rfl,rfl,(congrArg (fun b=>some (Value.bool b)) (by simp only[h18,h39,h45,bS])),trivial⟩ rfl rfl
   ·refine cb rfl (fun h50 p50=>?_) (fun h50 p50=>?_)
    ·refine go 12 ?_;refine a0s rfl rfl ?_;exact q_v (congrArg Value.bool (by simp only[a6q,a1j hlt (show a3k (l.take i) l[i]=false by simp only[a3k,h50];rfl),bS]))
    ·refine go 4 ?_;refine a1f 9 1 ?_;refine go 9 ?_
     refine a2L ((0:Nat)) (_) ([]) (fun j v8 xs=>I)
      (fun j v8 xs=>[(1,.pointer (some ⟨g1,0,none⟩)),(3,.int .i64 (i:Int)),(4,.pointer (some ⟨g4,0,none⟩)),(5,.pointer (some ⟨g5,0,none⟩)),(8,v8),(9,.int .i64 (j:Int))])
      (fun j v8 xs=>[.row v8 9 1 j xs,.blk g5 24 [.slice A i c0],.blk g4 168 (l[i].cells (.slice B24 l[i].slots.length d24)),.blk g1 24 [.slice A l.length c0]])
      (fun j v8 xs=>j≤l[i].slots.length∧a3h (a4i (l.take i)) l[i].slots j=true∧Flat I xs ((l[i].slots.take j).map Slot.name))
      (fun j v8 xs=>l[i].slots.length-j) ⟨Nat.zero_le _,rfl,.nil⟩ rfl sb rfl ?_
     intro j v8 xs ⟨hj,hq,hF⟩;refine go 10 ?_;refine cb rfl (fun h55 p55=>?_) (fun h55 p55=>?_)
     ·have hltj:j<l[i].slots.length:=by omega
      have h12:l[i].slots.length≤12:=by revert h50;simp only[Bool.or_eq_false_iff,decide_eq_false_iff_not];omega
      refine go 6 ?_;refine a2I (I':=I) (L':=[(1,.pointer (some ⟨g1,0,none⟩)),(3,.int .i64 (i:Int)),(4,.pointer (some ⟨g4,0,none⟩)),(5,.pointer (some ⟨g5,0,none⟩)),(8,v8),(9,.int .i64 (j:Int)),(75,.bool ((!b4S (l.take i) l[i].slots[j])||decide (l[i].slots[j].name∈(l[i].slots.take j).map Slot.name)))]) (H':=[.row v8 9 1 j xs,.blk g5 24 [.slice A i c0],.blk g4 168 (l[i].cells (.slice B24 l[i].slots.length d24)),.blk g1 24 [.slice A l.length c0]]) ?_ ?_
      ·refine a0F T.mixed ?_;refine a0e 0 rfl rfl (by kernel_rfl) rfl (.refl _) rfl (a3U m1 he rfl rfl) ?_;refine a0e 1 rfl rfl (by kernel_rfl) rfl (.refl _) rfl (a0g he rfl) ?_;refine a0e 2 rfl rfl (by kernel_rfl) rfl (.refl _) rfl (a2H m2 he rfl rfl) ?_;refine a0e 3 rfl rfl (by kernel_rfl) rfl (.refl _) rfl (a0a rfl) ?_;obtain⟨b62,o62,w62,e62,c62,r62⟩:=RdA.at_ hB24 (i:=j) hltj;obtain⟨q62,rfl,B62,d62,rfl,hB62,hd62,hm62⟩:=r62;refine a0e 4 rfl rfl (by kernel_rfl) rfl (.refl _) rfl (a0h he rfl rfl e62 (j) (by omega) hltj) ?_;refine a0e 5 rfl rfl (by kernel_rfl) rfl (.refl _) rfl (a0G he rfl c62 rfl) ?_;refine a0m 6 (by kernel_rfl) rfl ?_;refine a0d (c6S _ _ (l.take i) (hv0.take i (by omega)) l[i].slots[j] B62 d62 ⟨_,_,rfl,hB62,hd62,hm62⟩ ((hs _ (List.getElem_mem hlt)).2 _ (List.getElem_mem hltj))) rfl rfl ?_;refine a0D (fun _ m=>m.keeps (.refl _)) ?_;refine a0e 7 rfl rfl (by kernel_rfl) rfl (.refl _) rfl (a8x rfl) ?_;refine a0e 8 rfl rfl (by kernel_rfl) rfl (.refl _) rfl (a0a rfl) ?_;refine sxb 66 rfl (fun h66 p66=>?_) (fun h66 p66=>?_)
       ·refine d_t 9 rfl rfl (by kernel_rfl) rfl (fun _ m=>m.keeps (.refl _)) (a0A rfl rfl h66) ?_;refine d_t 10 rfl rfl (by kernel_rfl) rfl (fun _ m=>m.keeps (.refl _)) (a0A rfl rfl h66) ?_;refine d_t 11 rfl rfl (by kernel_rfl) rfl (fun _ m=>m.keeps (.refl _)) (a0A rfl rfl h66) ?_;refine d_t 12 rfl rfl (by kernel_rfl) rfl (fun _ m=>m.keeps (.refl _)) (a0A rfl rfl h66) ?_;refine d_t 13 rfl rfl (by kernel_rfl) rfl (fun _ m=>m.keeps (.refl _)) (a0A rfl rfl h66) ?_;refine d_t 14 rfl rfl (by kernel_rfl) rfl (fun _ m=>m.keeps (.refl _)) (a0A rfl rfl h66) ?_;refine d_t 15 rfl rfl (by kernel_rfl) rfl (fun _ m=>m.keeps (.refl _)) (a0A rfl rfl h66) ?_;refine d_t 16 rfl rfl (by kernel_rfl) rfl (fun _ m=>m.keeps (.refl _)) (a0A rfl rfl h66) ?_;refine a0e 17 rfl rfl (by kernel_rfl) rfl (.refl _) rfl (a2s h66 rfl) ?_;refine a0n (by kernel_rfl) ?_;refine go 1 ?_;exact a0L ⟨rfl,rfl,rfl,rfl,rfl,rfl,(congrArg (fun b=>some (Value.bool b)) (by simp only[h55,h66,bS])),trivial⟩ rfl rfl
       ·refine d_t 9 rfl rfl (by kernel_rfl) rfl (fun _ m=>m.keeps (.refl _)) (a0k rfl rfl h66 (a0a rfl)) ?_;refine d_t 10 rfl rfl (by kernel_rfl) rfl (fun _ m=>m.keeps (.refl _)) (a0k rfl rfl h66 (a0g he rfl)) ?_;refine d_t 11 rfl rfl (by kernel_rfl) rfl (fun _ m=>m.keeps (.refl _)) (a0k rfl rfl h66 (a2H m2 he rfl rfl)) ?_;refine d_t 12 rfl rfl (by kernel_rfl) rfl (fun _ m=>m.keeps (.refl _)) (a0k rfl rfl h66 (a0a rfl)) ?_;obtain⟨b71,o71,w71,e71,c71,r71⟩:=RdA.at_ hB24 (i:=j) hltj;obtain⟨q71,rfl,B71,d71,rfl,hB71,hd71,hm71⟩:=r71;refine d_t 13 rfl rfl (by kernel_rfl) rfl (fun _ m=>m.keeps (.refl _)) (a0k rfl rfl h66 (a0h he rfl rfl e71 (j) (by omega) hltj)) ?_;refine d_t 14 rfl rfl (by kernel_rfl) rfl (fun _ m=>m.keeps (.refl _)) (a0k rfl rfl h66 (a0g he rfl)) ?_;refine d_t 15 rfl rfl (by kernel_rfl) rfl (fun _ m=>m.keeps (.refl _)) (a0k rfl rfl h66 (a0K he rfl (c71 0 _ rfl))) ?_;refine a0m 16 (by kernel_rfl) rfl ?_;refine a0R rfl rfl h66 (b4u m0 rfl (by simp;omega) (hF) (fun I2 hI2 hR=>d0l I2 _ _ l[i].slots[j].name hR) rfl rfl ?_);refine a0D (fun _ m=>m.keeps (.refl _)) ?_;refine a0e 17 rfl rfl (by kernel_rfl) rfl (.refl _) rfl (a3b h66 rfl rfl) ?_;refine a0n (by kernel_rfl) ?_;refine go 1 ?_;exact a0L ⟨rfl,rfl,rfl,rfl,rfl,rfl,(congrArg (fun b=>some (Value.bool b)) (by simp only[h55,h66,bS])),trivial⟩ rfl rfl
      ·refine cb rfl (fun h75 p75=>?_) (fun h75 p75=>?_)
       ·refine go 16 ?_;refine a0s rfl rfl ?_;exact q_v (congrArg Value.bool (by simp only[a6q,a1j hlt (show a3k (l.take i) l[i]=false by simp only[a3k,a1j hltj (show a4i (l.take i) (l[i].slots.take j) l[i].slots[j]=false by simp only[a4i,h75];rfl),bS]),bS]))
       ·refine go 7 ?_;obtain⟨b80,o80,w80,e80,c80,r80⟩:=RdA.at_ hB24 (i:=j) hltj;obtain⟨q80,rfl,B80,d80,rfl,hB80,hd80,hm80⟩:=r80;refine o_v rfl (a0h he rfl rfl e80 (j) (by omega) hltj) ?_;refine go 1 ?_;refine o_v rfl (a0K he rfl (c80 0 _ rfl)) ?_;refine go 1 ?_;refine a0c he he rfl rfl rfl rfl rfl rfl rfl (fun v83=>?_);refine go 1 ?_;refine a0f ?_;refine a0v he he rfl rfl rfl rfl rfl (by omega) (by omega) rfl (fun v84=>?_);refine go 10 ?_;refine a0f ?_;refine a0b ?_;exact a1M (j+1) (_) (_) ⟨by omega,a1v hq hltj (by simp only[a4i,h75];rfl),by rw[←a0i hltj,List.map_append];exact hF.append (.one rfl)⟩ (by omega) rfl sb rfl
     ·refine go 12 ?_;refine a0b ?_;refine a0b ?_;refine a0b ?_;exact a0M (i+1) ⟨by omega,a1v hn hlt (by simp only[a3k,h50,(show j=l[i].slots.length by omega)▸hq];rfl)⟩ (by omega) rfl sb rfl
  ·refine go 11 ?_;refine a0s rfl rfl ?_
   have e:i=l.length:=(by omega)
   subst e;exact q_v (congrArg Value.bool (by simp only[a6q,hn,h13];rfl))
theorem c9o (I:IMap) (v:Value) (l:List Kind) (hv:RdS I v l) :
    FnV Tryz.prog 51 #[.agg #[v]] I (.bool (c2n l)):=by
 obtain⟨A,c0,rfl,hA,hc,hm⟩:=hv;refine enter Tryz.func51 Tryz.call51 rfl Tryz.ntmps51 rfl (fun w0=>?_);refine go 3 ?_;refine a0B _ rfl rfl rfl (fun g1=>?_);refine go 12 ?_;refine cb rfl (fun h10 p10=>?_) (fun h10 p10=>?_)
 ·refine go 7 ?_;refine a0s rfl rfl ?_;exact q_v (congrArg Value.bool (by simp only[c2n,h10];rfl))
 ·refine go 9 ?_
  refine a0Q (α:=Nat) 0 (fun i=>I)
   (fun i=>[(1,.pointer (some ⟨g1,0,none⟩)),(3,.int .i64 (i:Int))])
   (fun i=>[.blk g1 24 [.slice A l.length c0]])
   (fun i=>i≤l.length∧a3h (fun _ k=>a3P k) l i=true)
   (fun i=>l.length-i) ⟨Nat.zero_le _,rfl⟩ rfl sb rfl ?_
  intro i ⟨hi,hn⟩;refine go 10 ?_;refine cb rfl (fun h15 p15=>?_) (fun h15 p15=>?_)
  ·have hlt:i<l.length:=by omega
   refine go 9 ?_;obtain⟨b21,o21,w21,e21,c21,r21⟩:=RdA.at_ hA (i:=i) hlt;obtain⟨q21,rfl,B21,d21,rfl,hB21,hd21,hm21⟩:=r21;refine o_v rfl (a0h he rfl rfl e21 (i) (by omega) hlt) ?_;refine o_v rfl (a0G he rfl c21 rfl) ?_;refine go 1 ?_;refine a0j he rfl (fun g4=>?_);refine go 1 ?_;refine a0p _ he rfl rfl rfl rfl rfl rfl ?_;refine go 4 ?_;refine a2I (I':=I) (L':=[(1,.pointer (some ⟨g1,0,none⟩)),(3,.int .i64 (i:Int)),(4,.pointer (some ⟨g4,0,none⟩)),(32,.bool (decide ((100:Int)<(l[i].name.size:Nat))||decide ((15:Int)<(l[i].slots.length:Nat))))]) (H':=[.blk g4 168 (l[i].cells (.slice B21 l[i].slots.length d21)),.blk g1 24 [.slice A l.length c0]]) ?_ ?_
   ·refine go 6 ?_;refine sxb 27 rfl (fun h27 p27=>?_) (fun h27 p27=>?_)
    ·refine go 7 ?_;exact a0L ⟨rfl,rfl,rfl,(congrArg (fun b=>some (Value.bool b)) (by simp only[h15,h27,bS])),trivial⟩ rfl rfl
    ·refine go 7 ?_;exact a0L ⟨rfl,rfl,rfl,(congrArg (fun b=>some (Value.bool b)) (by simp only[h15,h27,bS])),trivial⟩ rfl rfl
   ·refine cb rfl (fun h32 p32=>?_) (fun h32 p32=>?_)
    ·refine go 12 ?_;refine a0s rfl rfl ?_;exact q_v (congrArg Value.bool (by simp only[c2n,a1j (f:=fun _ k=>a3P k) hlt (show a3P l[i]=false by simp only[a3P,h32,bS]),bS]))
    ·refine go 8 ?_
     refine a0Q (α:=Nat) 0 (fun j=>I)
      (fun j=>[(1,.pointer (some ⟨g1,0,none⟩)),(3,.int .i64 (i:Int)),(4,.pointer (some ⟨g4,0,none⟩)),(5,.int .i64 (j:Int))])
      (fun j=>[.blk g4 168 (l[i].cells (.slice B21 l[i].slots.length d21)),.blk g1 24 [.slice A l.length c0]])
      (fun j=>j≤l[i].slots.length∧a3h (fun _ s=>a4X s) l[i].slots j=true)
      (fun j=>l[i].slots.length-j) ⟨Nat.zero_le _,rfl⟩ rfl sb rfl ?_
     intro j ⟨hj,hq⟩;refine go 10 ?_;refine cb rfl (fun h37 p37=>?_) (fun h37 p37=>?_)
     ·have hltj:j<l[i].slots.length:=by omega
      refine go 6 ?_;refine a2I (I':=I) (L':=[(1,.pointer (some ⟨g1,0,none⟩)),(3,.int .i64 (i:Int)),(4,.pointer (some ⟨g4,0,none⟩)),(5,.int .i64 (j:Int)),(57,.bool (decide ((100:Int)<(l[i].slots[j].name.size:Nat))||decide ((15:Int)<(l[i].slots[j].kinds.length:Nat))))]) (H':=[.blk g4 168 (l[i].cells (.slice B21 l[i].slots.length d21)),.blk g1 24 [.slice A l.length c0]]) ?_ ?_
      ·refine go 4 ?_;obtain⟨b43,o43,w43,e43,c43,r43⟩:=RdA.at_ hB21 (i:=j) hltj;obtain⟨q43,rfl,B43,d43,rfl,hB43,hd43,hm43⟩:=r43;refine o_v rfl (a0h he rfl rfl e43 (j) (by omega) hltj) ?_;refine go 1 ?_;refine o_v rfl (a0K he rfl (c43 0 _ rfl)) ?_;refine go 3 ?_;refine sxb 48 rfl (fun h48 p48=>?_) (fun h48 p48=>?_)
       ·refine go 11 ?_;exact a0L ⟨rfl,rfl,rfl,rfl,(congrArg (fun b=>some (Value.bool b)) (by simp only[h37,h48,bS])),trivial⟩ rfl rfl
       ·refine go 3 ?_;obtain⟨b52,o52,w52,e52,c52,r52⟩:=RdA.at_ hB21 (i:=j) hltj;obtain⟨q52,rfl,B52,d52,rfl,hB52,hd52,hm52⟩:=r52;refine a1d (a0R rfl rfl h48 (a0t rfl (a0h he rfl rfl e52 (j) (by omega) hltj) ?_));refine go 1 ?_;refine a1d (a0R rfl rfl h48 (a0t rfl (a0K he rfl (c52 1 _ rfl)) ?_));refine go 5 ?_;exact a0L ⟨rfl,rfl,rfl,rfl,(congrArg (fun b=>some (Value.bool b)) (by simp only[h37,h48,bS])),trivial⟩ rfl rfl
      ·refine cb rfl (fun h57 p57=>?_) (fun h57 p57=>?_)
       ·refine go 16 ?_;refine a0s rfl rfl ?_;exact q_v (congrArg Value.bool (by simp only[c2n,a1j (f:=fun _ k=>a3P k) hlt (show a3P l[i]=false by simp only[a3P,a1j (f:=fun _ s=>a4X s) hltj (show a4X l[i].slots[j]=false by simp only[a4X,h57];rfl),bS]),bS]))
       ·refine go 8 ?_
        refine a0Q (α:=Nat) 0 (fun m=>I)
         (fun m=>[(1,.pointer (some ⟨g1,0,none⟩)),(3,.int .i64 (i:Int)),(4,.pointer (some ⟨g4,0,none⟩)),(5,.int .i64 (j:Int)),(6,.int .i64 (m:Int))])
         (fun m=>[.blk g4 168 (l[i].cells (.slice B21 l[i].slots.length d21)),.blk g1 24 [.slice A l.length c0]])
         (fun m=>m≤l[i].slots[j].kinds.length∧a3h (fun _ k=>!decide ((100:Int)<((k:ByteArray).size:Nat))) l[i].slots[j].kinds m=true)
         (fun m=>l[i].slots[j].kinds.length-m) ⟨Nat.zero_le _,rfl⟩ rfl sb rfl ?_
        intro m ⟨hmm,hr⟩;refine go 7 ?_;obtain⟨b62,o62,w62,e62,c62,r62⟩:=RdA.at_ hB21 (i:=j) hltj;obtain⟨q62,rfl,B62,d62,rfl,hB62,hd62,hm62⟩:=r62;refine o_v rfl (a0h he rfl rfl e62 (j) (by omega) hltj) ?_;refine go 1 ?_;refine o_v rfl (a0K he rfl (c62 1 _ rfl)) ?_;refine go 4 ?_;refine cb rfl (fun h66 p66=>?_) (fun h66 p66=>?_)
        ·have hltm:m<l[i].slots[j].kinds.length:=by omega
         refine go 9 ?_;obtain⟨b72,o72,w72,e72,c72,r72⟩:=RdA.at_ hB21 (i:=j) hltj;obtain⟨q72,rfl,B72,d72,rfl,hB72,hd72,hm72⟩:=r72;refine o_v rfl (a0h he rfl rfl e72 (j) (by omega) hltj) ?_;refine go 1 ?_;refine o_v rfl (a0K he rfl (c72 1 _ rfl)) ?_;refine go 1 ?_;obtain⟨b76,o76,w76,e76,c76,r76⟩:=RdA.at_ hB72 (i:=m) hltm;obtain rfl:=r76;refine o_v rfl (a0h he rfl rfl e76 (m) (by omega) hltm) ?_;refine o_v rfl (a0K he rfl (c76 0 _ rfl)) ?_;refine go 4 ?_;refine cb rfl (fun h79 p79=>?_) (fun h79 p79=>?_)
         ·refine go 19 ?_;refine a0s rfl rfl ?_;exact q_v (congrArg Value.bool (by simp only[c2n,a1j (f:=fun _ k=>a3P k) hlt (show a3P l[i]=false by simp only[a3P,a1j (f:=fun _ s=>a4X s) hltj (show a4X l[i].slots[j]=false by simp only[a4X,a1j (f:=fun _ k=>!decide ((100:Int)<((k:ByteArray).size:Nat))) hltm (show (!decide ((100:Int)<((l[i].slots[j].kinds[m]).size:Nat)))=false by simp only[h79];rfl),bS]),bS]),bS]))
         ·refine go 9 ?_;exact a0M (m+1) ⟨by omega,a1v hr hltm (by simp only[h79];rfl)⟩ (by omega) rfl sb rfl
        ·refine go 12 ?_;exact a0M (j+1) ⟨by omega,a1v hq hltj (by simp only[a4X,h57,(show m=l[i].slots[j].kinds.length by omega)▸hr];rfl)⟩ (by omega) rfl sb rfl
     ·refine go 12 ?_;refine a0b ?_;exact a0M (i+1) ⟨by omega,a1v hn hlt (by simp only[a3P,h32,(show j=l[i].slots.length by omega)▸hq];rfl)⟩ (by omega) rfl sb rfl
  ·refine go 11 ?_;refine a0s rfl rfl ?_
   have e:i=l.length:=(by omega)
   subst e;exact q_v (congrArg Value.bool (by simp only[c2n,hn,h10];rfl))
end Go.Proofs.YtdapmfkbpnjkmaaGreat
namespace Go.Proofs.YtdapmfkbpnjkmaaGreat
open Go Go.Sx
set_option linter.all false
set_option maxRecDepth 20000
set_option maxHeartbeats 4000000
instance T.arr_199:Has (c4z Tryz.prog 199) (3,198,1):=⟨by kernel_rfl⟩
instance T.arr_264:Has (c4z Tryz.prog 264) (8,9,1):=⟨by kernel_rfl⟩
theorem T.eqg_96:Tryz.prog.eqGuardType Tryz.prog.depth 96=false:=by kernel_rfl
instance T.fld_44_0:Has (a3Q Tryz.prog 44 0) (0,false,1):=⟨by kernel_rfl⟩
instance T.fld_44_1:Has (a3Q Tryz.prog 44 1) (1,false,1):=⟨by kernel_rfl⟩
instance T.fld_94_0:Has (a3Q Tryz.prog 94 0) (0,true,2):=⟨by kernel_rfl⟩
instance T.fld_94_1:Has (a3Q Tryz.prog 94 1) (2,true,2):=⟨by kernel_rfl⟩
instance T.fld_94_2:Has (a3Q Tryz.prog 94 2) (4,true,2):=⟨by kernel_rfl⟩
instance T.fld_96_0:Has (a3Q Tryz.prog 96 0) (0,false,1):=⟨by kernel_rfl⟩
instance T.fld_96_1:Has (a3Q Tryz.prog 96 1) (1,false,1):=⟨by kernel_rfl⟩
instance T.fld_96_2:Has (a3Q Tryz.prog 96 2) (2,false,1):=⟨by kernel_rfl⟩
instance T.fld_96_3:Has (a3Q Tryz.prog 96 3) (3,false,1):=⟨by kernel_rfl⟩
instance T.fld_96_4:Has (a3Q Tryz.prog 96 4) (4,false,1):=⟨by kernel_rfl⟩
instance T.fld_96_5:Has (a3Q Tryz.prog 96 5) (5,false,1):=⟨by kernel_rfl⟩
instance T.fld_96_6:Has (a3Q Tryz.prog 96 6) (6,false,1):=⟨by kernel_rfl⟩
instance T.fld_96_7:Has (a3Q Tryz.prog 96 7) (7,false,1):=⟨by kernel_rfl⟩
instance T.fld_96_8:Has (a3Q Tryz.prog 96 8) (8,true,6):=⟨by kernel_rfl⟩
instance T.pl_94:Has (plK Tryz.prog 94) [(0,2),(2,2),(4,2)]:=⟨by kernel_rfl⟩
instance T.pl_96:Has (plK Tryz.prog 96) [(0,1),(1,1),(2,1),(3,1),(4,1),(5,1),(6,1),(7,1),(8,6)]:=⟨by kernel_rfl⟩
instance T.ty_198:Has (tyK Tryz.prog 198) (false,1):=⟨by kernel_rfl⟩
instance T.ty_199:Has (tyK Tryz.prog 199) (true,3):=⟨by kernel_rfl⟩
instance T.ty_264:Has (tyK Tryz.prog 264) (true,8):=⟨by kernel_rfl⟩
instance T.ty_94:Has (tyK Tryz.prog 94) (true,6):=⟨by kernel_rfl⟩
instance T.zero_199:Has (a2t Tryz.prog 199) [.pointer none,.pointer none,.pointer none]:=⟨by kernel_rfl⟩
instance T.zero_264:Has (a2t Tryz.prog 264) [.string ⟨#[]⟩,.string ⟨#[]⟩,.string ⟨#[]⟩,.string ⟨#[]⟩,.string ⟨#[]⟩,.string ⟨#[]⟩,.string ⟨#[]⟩,.string ⟨#[]⟩]:=⟨by kernel_rfl⟩
instance T.zero_94:Has (a2t Tryz.prog 94) [.int .i64 0,.int .i64 0,.int .i64 0,.int .i64 0,.int .i64 0,.int .i64 0]:=⟨by kernel_rfl⟩
instance T.zero_96:Has (a2t Tryz.prog 96) [.int .i64 0,.int .i64 0,.string ⟨#[]⟩,.string ⟨#[]⟩,.string ⟨#[]⟩,.string ⟨#[]⟩,.string ⟨#[]⟩,.string ⟨#[]⟩,.int .i64 0,.int .i64 0,.int .i64 0,.int .i64 0,.int .i64 0,.int .i64 0]:=⟨by kernel_rfl⟩
theorem b1t (a b:Evt):eqV Tryz.prog 9 96 (.agg a.cells.toArray) (.agg b.cells.toArray)=some (decide (a=b)):=by
 rw[←Evt.eqB_eq]
 kernel_rfl
theorem c8l (I:IMap) (op:Int) :
    FnV Tryz.prog 125 #[.int .i64 op] I (.string (a9Y op)):=by
 refine enter Tryz.func125 Tryz.call125 rfl Tryz.ntmps125 rfl (fun w0=>?_);refine go 8 ?_;refine a0t rfl (b6I he he rfl rfl) ?_;refine go 1 ?_;refine a0j he rfl (fun g3=>?_);refine go 1 ?_;refine a0p _ he rfl rfl rfl rfl rfl rfl ?_;refine go 8 ?_;refine sxb 7 rfl (fun h7 p7=>?_) (fun h7 p7=>?_)
 ·refine go 5 ?_;refine a2M rfl ?_;refine go 7 ?_;refine a0s rfl rfl ?_;exact q_v (congrArg Value.string (b1c (by omega)).symm)
 ·refine go 5 ?_;refine cb rfl (fun h10 p10=>?_) (fun h10 p10=>?_)
  ·refine go 7 ?_;refine a0s rfl rfl ?_;exact q_v (congrArg Value.string (b1c (by omega)).symm)
  ·refine go 5 ?_;refine o_v rfl (a7q he rfl rfl op.toNat (by omega) (by omega)) ?_;refine o_v rfl (a2H m0 he rfl (by rw[show 0+op.toNat * 1=op.toNat from by omega];exact c1D (by omega) (by omega))) ?_;refine go 4 ?_;refine a0s rfl rfl ?_;exact q_v rfl
theorem c8k (I:IMap) (g o:Nat) :
    FnV Tryz.prog 127 #[.pointer (some ⟨g,o,none⟩)] I (.agg #[.pointer (some ⟨g,o+0,none⟩),.pointer (some ⟨g,o+2,none⟩),.pointer (some ⟨g,o+4,none⟩)]):=by
 refine enter Tryz.func127 Tryz.call127 rfl Tryz.ntmps127 rfl (fun w0=>?_);refine go 3 ?_;refine a0j he rfl (fun g2=>?_);refine go 3 ?_;refine a1I T.mixed ?_;refine a0e 0 rfl rfl (by kernel_rfl) rfl (.cons _ .slnil) rfl (a0a rfl) ?_;refine a0e 1 rfl rfl (by kernel_rfl) rfl (.cons _ .slnil) rfl (a3x rfl) ?_;refine a0e 2 rfl rfl (by kernel_rfl) rfl (.cons _ .slnil) rfl (a0g he rfl) ?_;refine a0e 3 rfl rfl (by kernel_rfl) rfl (.cons _ .slnil) rfl (a0a rfl) ?_;refine a0e 4 rfl rfl (by kernel_rfl) rfl (.cons _ .slnil) rfl (a3x rfl) ?_;refine a0e 5 rfl rfl (by kernel_rfl) rfl (.cons _ .slnil) rfl (a0g he rfl) ?_;refine a0e 6 rfl rfl (by kernel_rfl) rfl (.cons _ .slnil) rfl (a0a rfl) ?_;refine a0e 7 rfl rfl (by kernel_rfl) rfl (.cons _ .slnil) rfl (a3x rfl) ?_;refine a0e 8 rfl rfl (by kernel_rfl) rfl (.cons _ .slnil) rfl (a0g he rfl) ?_;refine a0m 9 (by kernel_rfl) rfl ?_;refine a0t rfl (b6I he he rfl rfl) ?_;refine a0D (fun _ m=>m.keeps (.cons _ .slnil)) ?_;refine a0m 10 (by kernel_rfl) rfl ?_;refine a0p _ he rfl rfl rfl rfl rfl rfl ?_;refine a0D (fun _ m=>m.keeps (.cons _ .slnil)) ?_;refine a0n (by kernel_rfl) ?_;refine go 2 ?_;refine a0s rfl ⟨_,_,_,rfl,m0,.inr ⟨_,he,rfl,rfl⟩⟩ ?_;exact q_v rfl
theorem c2h (I:IMap) (s:ByteArray) (hs:Sm s) :
    FnV Tryz.prog 129 #[.string s] I (.bool (!a2k s)):=by
 refine enter Tryz.func129 Tryz.call129 rfl Tryz.ntmps129 rfl (fun w0=>?_);refine go 9 ?_;refine a0d (a7I _ s hs) rfl rfl ?_;refine go 5 ?_;refine a0s rfl rfl ?_;exact q_v rfl
theorem b4h (I:IMap) (e:Evt) (hs:SmE e) :
    FnV Tryz.prog 71 #[.agg e.cells.toArray] I (.bool (a1t e)):=by
 refine enter Tryz.func71 Tryz.call71 rfl Tryz.ntmps71 rfl (fun w0=>?_);refine go 3 ?_;refine a0B _ rfl rfl rfl (fun g1=>?_);refine go 5 ?_;refine a2I (I':=I) (L':=[(1,.pointer (some ⟨g1,0,none⟩)),(26,.bool (a8s e))]) (H':=[.blk g1 96 e.cells]) ?_ ?_
 ·refine go 4 ?_;refine a0d (c8l _ e.op) rfl rfl ?_;refine go 2 ?_;refine sxb 11 rfl (fun h11 p11=>?_) (fun h11 p11=>?_)
  ·refine go 17 ?_;exact a0L ⟨rfl,(congrArg (fun b=>some (Value.bool b)) (by simp only[a8s,h11,bS])),trivial⟩ rfl rfl
  ·refine go 5 ?_;refine sxb 16 rfl (fun h16 p16=>?_) (fun h16 p16=>?_)
   ·refine go 12 ?_;exact a0L ⟨rfl,(congrArg (fun b=>some (Value.bool b)) (by simp only[a8s,h11,h16,bS])),trivial⟩ rfl rfl
   ·refine go 5 ?_;refine sxb 21 rfl (fun h21 p21=>?_) (fun h21 p21=>?_)
    ·refine go 7 ?_;exact a0L ⟨rfl,(congrArg (fun b=>some (Value.bool b)) (by simp only[a8s,h11,h16,h21,bS])),trivial⟩ rfl rfl
    ·refine go 3 ?_;refine a0R rfl rfl h21 (a0d (a7I _ _ hs.1) rfl rfl ?_);refine go 4 ?_;exact a0L ⟨rfl,(congrArg (fun b=>some (Value.bool b)) (by simp only[a8s,h11,h16,h21,bS])),trivial⟩ rfl rfl
 ·refine cb rfl (fun h26 p26=>?_) (fun h26 p26=>?_)
  ·refine go 7 ?_;refine a0s rfl rfl ?_;exact q_v (congrArg Value.bool (by simp only[a1t,h26];rfl))
  ·refine go 5 ?_;refine a0c he he rfl rfl rfl rfl rfl rfl rfl (fun v27=>?_);refine go 7 ?_;refine a0j he rfl (fun g4=>?_);refine go 1 ?_;refine a0p _ he rfl rfl rfl rfl rfl rfl ?_;refine go 6 ?_;refine a2f he rfl rfl rfl rfl ?_;refine go 2 ?_;refine a2f he rfl rfl rfl rfl ?_;refine go 2 ?_;refine a2f he rfl rfl rfl rfl ?_;refine go 3 ?_;refine b1m (Ix:=(fun v3 xs=>I)) (Lx:=(fun v3 xs=>[(3,v3),(4,.pointer (some ⟨g4,0,none⟩))])) (Hx:=(fun v3 xs=>[.row v3 9 1 (a1X e).length xs,.blk g4 96 (a5P e).cells])) (p:=(fun v3 xs=>Flat I xs (a1X e)∧a5G e=false)) ?_ ?_
   ·refine go 13 ?_;refine cb rfl (fun h34 p34=>?_) (fun h34 p34=>?_)
    ·refine go 4 ?_;refine a0c he he rfl rfl rfl rfl rfl rfl rfl (fun v38=>?_);refine go 3 ?_;refine a0f ?_;refine a2f he rfl rfl rfl rfl ?_;refine go 3 ?_;refine a0o ?_;refine a0b ?_;refine a0o ?_;refine a0b ?_;refine a0f ?_;exact a4H (_) (_) ⟨(by simp only[a1X,p26,p34,if_true,if_false];first|exact .nil|exact .one rfl|exact .cons rfl (.one rfl)),(by simp[a5G,p26,p34,h26,h34]<;>assumption)⟩ sb (by simp only[a1X,a5P,p26,p34,if_true,if_false];rfl) rfl
    ·refine go 6 ?_;refine cb rfl (fun h40 p40=>?_) (fun h40 p40=>?_)
     ·refine go 10 ?_;refine cb rfl (fun h46 p46=>?_) (fun h46 p46=>?_)
      ·refine go 9 ?_;refine a0s rfl rfl ?_;exact q_v (congrArg Value.bool (by simp[a1t,a5G,p26,p34,p40,p46,h26,h34,h40,h46]))
      ·refine go 8 ?_;refine a0c he he rfl rfl rfl rfl rfl rfl rfl (fun v51=>?_);refine go 3 ?_;refine a0f ?_;refine a2f he rfl rfl rfl rfl ?_;refine go 2 ?_;refine a2f he rfl rfl rfl rfl ?_;refine go 3 ?_;refine a0o ?_;refine a0b ?_;refine a0o ?_;refine a0b ?_;refine a0f ?_;exact a4H (_) (_) ⟨(by simp only[a1X,p26,p34,p40,p46,if_true,if_false];first|exact .nil|exact .one rfl|exact .cons rfl (.one rfl)),(by simp[a5G,p26,p34,p40,p46,h26,h34,h40,h46]<;>assumption)⟩ sb (by simp only[a1X,a5P,p26,p34,p40,p46,if_true,if_false];rfl) rfl
     ·refine go 6 ?_;refine cb rfl (fun h54 p54=>?_) (fun h54 p54=>?_)
      ·refine go 2 ?_;refine a2I (I':=I) (L':=[(1,.pointer (some ⟨g1,0,none⟩)),(3,v27),(4,.pointer (some ⟨g4,0,none⟩)),(64,.bool (decide (e.value=a0Z)||decide ((200:Int)<(e.value.size:Nat))))]) (H':=[.row v27 9 1 0 [],.blk g1 96 e.cells,.blk g4 96 ({ e with op:=0,day:=0,part:=a0Z }:Evt).cells]) ?_ ?_
       ·refine go 5 ?_;refine sxb 59 rfl (fun h59 p59=>?_) (fun h59 p59=>?_)
        ·refine go 7 ?_;refine a0o ?_;refine a0o ?_;exact a0L ⟨rfl,rfl,rfl,(congrArg (fun b=>some (Value.bool b)) (by simp only[h26,h34,h40,h54,h59,bS])),trivial⟩ rfl rfl
        ·refine go 7 ?_;refine a0o ?_;refine a0o ?_;exact a0L ⟨rfl,rfl,rfl,(congrArg (fun b=>some (Value.bool b)) (by simp only[h26,h34,h40,h54,h59,bS])),trivial⟩ rfl rfl
       ·refine cb rfl (fun h64 p64=>?_) (fun h64 p64=>?_)
        ·refine go 9 ?_;refine a0s rfl rfl ?_;exact q_v (congrArg Value.bool (by simp[a1t,a5G,p54,h64]))
        ·refine go 6 ?_;refine a0c he he rfl rfl rfl rfl rfl rfl rfl (fun v67=>?_);refine go 3 ?_;refine a1c ?_;refine a2f he rfl rfl rfl rfl ?_;refine go 2 ?_;refine a2f he rfl rfl rfl rfl ?_;refine go 3 ?_;refine a0o ?_;refine a0b ?_;refine a0o ?_;refine a0b ?_;refine a0f ?_;exact a4H (_) (_) ⟨(by simp only[a1X,p26,p34,p40,p54,p64,if_true,if_false];first|exact .nil|exact .one rfl|exact .cons rfl (.one rfl)),(by simp[a5G,p26,p34,p40,p54,p64,h64]<;>assumption)⟩ sb (by simp only[a1X,a5P,p26,p34,p40,p54,p64,if_true,if_false];rfl) rfl
      ·refine go 6 ?_;refine cb rfl (fun h70 p70=>?_) (fun h70 p70=>?_)
       ·refine go 5 ?_;refine a0d (c8k _ g1 8) rfl rfl ?_;refine go 4 ?_;refine a0f ?_;refine a0f ?_;refine a0o ?_
        refine a0Q (α:=Nat) 0 (fun i=>I)
         (fun i=>[(1,.pointer (some ⟨g1,0,none⟩)),(3,v27),(4,.pointer (some ⟨g4,0,none⟩)),(73,.agg (b5a g1 8).toArray),(74,.int .i64 (i:Int))])
         (fun i=>[.blk g1 96 e.cells,.blk g4 96 ({ e with op:=0,day:=0,part:=a0Z }:Evt).cells,.row v27 9 1 0 []])
         (fun i=>i≤3∧b0n e.use i=true)
         (fun i=>3-i) ⟨by omega,rfl⟩ rfl sb rfl ?_
        intro i ⟨hi,hn⟩;refine go 6 ?_;refine cb rfl (fun h75 p75=>?_) (fun h75 p75=>?_)
        ·have hlt:i<3:=by omega
         refine go 6 ?_;refine o_v rfl (c9F he he rfl rfl i rfl hlt (b7Z g1 8 hlt)) ?_;refine go 4 ?_;refine a2I (I':=I) (L':=[(1,.pointer (some ⟨g1,0,none⟩)),(3,v27),(4,.pointer (some ⟨g4,0,none⟩)),(73,.agg (b5a g1 8).toArray),(74,.int .i64 (i:Int)),(99,.bool (!b0j (b3K e.use i)))]) (H':=[.blk g1 96 e.cells,.blk g4 96 ({ e with op:=0,day:=0,part:=a0Z }:Evt).cells,.row v27 9 1 0 []]) ?_ ?_
         ·refine a0F T.mixed ?_;refine a0e 0 rfl rfl (by kernel_rfl) rfl (.refl _) rfl (a0a rfl) ?_;refine a0e 1 rfl rfl (by kernel_rfl) rfl (.refl _) rfl (a3x rfl) ?_;refine a0e 2 rfl rfl (by kernel_rfl) rfl (.refl _) rfl (a0g he rfl) ?_;refine a0e 3 rfl rfl (by kernel_rfl) rfl (.refl _) rfl (a2H m0 he rfl (c1q e hlt)) ?_;refine a0e 4 rfl rfl (by kernel_rfl) rfl (.refl _) rfl (a5o rfl rfl) ?_;refine a0e 5 rfl rfl (by kernel_rfl) rfl (.refl _) rfl (a0a rfl) ?_;refine sxb 82 rfl (fun h82 p82=>?_) (fun h82 p82=>?_)
          ·refine d_t 6 rfl rfl (by kernel_rfl) rfl (fun _ m=>m.keeps (.refl _)) (a0A rfl rfl h82) ?_;refine d_t 7 rfl rfl (by kernel_rfl) rfl (fun _ m=>m.keeps (.refl _)) (a0A rfl rfl h82) ?_;refine d_t 8 rfl rfl (by kernel_rfl) rfl (fun _ m=>m.keeps (.refl _)) (a0A rfl rfl h82) ?_;refine d_t 9 rfl rfl (by kernel_rfl) rfl (fun _ m=>m.keeps (.refl _)) (a0A rfl rfl h82) ?_;refine d_t 10 rfl rfl (by kernel_rfl) rfl (fun _ m=>m.keeps (.refl _)) (a0A rfl rfl h82) ?_;refine d_t 11 rfl rfl (by kernel_rfl) rfl (fun _ m=>m.keeps (.refl _)) (a0A rfl rfl h82) ?_;refine d_t 12 rfl rfl (by kernel_rfl) rfl (fun _ m=>m.keeps (.refl _)) (a0A rfl rfl h82) ?_;refine d_t 13 rfl rfl (by kernel_rfl) rfl (fun _ m=>m.keeps (.refl _)) (a0A rfl rfl h82) ?_;refine d_t 14 rfl rfl (by kernel_rfl) rfl (fun _ m=>m.keeps (.refl _)) (a0A rfl rfl h82) ?_;refine a0e 15 rfl rfl (by kernel_rfl) rfl (.refl _) rfl (a2s h82 rfl) ?_;refine a0e 16 rfl rfl (by kernel_rfl) rfl (.refl _) rfl (a0a rfl) ?_;refine d_t 17 rfl rfl (by kernel_rfl) rfl (fun _ m=>m.keeps (.refl _)) (a0A rfl rfl rfl) ?_;refine d_t 18 rfl rfl (by kernel_rfl) rfl (fun _ m=>m.keeps (.refl _)) (a0A rfl rfl rfl) ?_;refine d_t 19 rfl rfl (by kernel_rfl) rfl (fun _ m=>m.keeps (.refl _)) (a0A rfl rfl rfl) ?_;refine d_t 20 rfl rfl (by kernel_rfl) rfl (fun _ m=>m.keeps (.refl _)) (a0A rfl rfl rfl) ?_;refine d_t 21 rfl rfl (by kernel_rfl) rfl (fun _ m=>m.keeps (.refl _)) (a0A rfl rfl rfl) ?_;refine a0e 22 rfl rfl (by kernel_rfl) rfl (.refl _) rfl (a2s rfl rfl) ?_;refine a0n (by kernel_rfl) ?_;refine go 1 ?_;exact a0L ⟨rfl,rfl,rfl,rfl,rfl,(congrArg (fun b=>some (Value.bool b)) (by simp only[b0j,h75,h82,bS,Bool.not_not])),trivial⟩ rfl rfl
          ·refine d_t 6 rfl rfl (by kernel_rfl) rfl (fun _ m=>m.keeps (.refl _)) (a0k rfl rfl h82 (a0a rfl)) ?_;refine d_t 7 rfl rfl (by kernel_rfl) rfl (fun _ m=>m.keeps (.refl _)) (a0k rfl rfl h82 (a3x rfl)) ?_;refine d_t 8 rfl rfl (by kernel_rfl) rfl (fun _ m=>m.keeps (.refl _)) (a0k rfl rfl h82 (a0g he rfl)) ?_;refine d_t 9 rfl rfl (by kernel_rfl) rfl (fun _ m=>m.keeps (.refl _)) (a0k rfl rfl h82 (a2H m0 he rfl (c1q e hlt))) ?_;refine d_t 10 rfl rfl (by kernel_rfl) rfl (fun _ m=>m.keeps (.refl _)) (a0k rfl rfl h82 (a0a rfl)) ?_;refine d_t 11 rfl rfl (by kernel_rfl) rfl (fun _ m=>m.keeps (.refl _)) (a0k rfl rfl h82 (a3x rfl)) ?_;refine d_t 12 rfl rfl (by kernel_rfl) rfl (fun _ m=>m.keeps (.refl _)) (a0k rfl rfl h82 (a0g he rfl)) ?_;refine d_t 13 rfl rfl (by kernel_rfl) rfl (fun _ m=>m.keeps (.refl _)) (a0k rfl rfl h82 (a2H m0 he rfl (b6H e hlt))) ?_;refine d_t 14 rfl rfl (by kernel_rfl) rfl (fun _ m=>m.keeps (.refl _)) (a0k rfl rfl h82 (a9R rfl rfl)) ?_;refine a0e 15 rfl rfl (by kernel_rfl) rfl (.refl _) rfl (a3b h82 rfl rfl) ?_;refine a0e 16 rfl rfl (by kernel_rfl) rfl (.refl _) rfl (a0a rfl) ?_;refine sxb 93 rfl (fun h93 p93=>?_) (fun h93 p93=>?_)
           ·refine d_t 17 rfl rfl (by kernel_rfl) rfl (fun _ m=>m.keeps (.refl _)) (a0A rfl rfl h93) ?_;refine d_t 18 rfl rfl (by kernel_rfl) rfl (fun _ m=>m.keeps (.refl _)) (a0A rfl rfl h93) ?_;refine d_t 19 rfl rfl (by kernel_rfl) rfl (fun _ m=>m.keeps (.refl _)) (a0A rfl rfl h93) ?_;refine d_t 20 rfl rfl (by kernel_rfl) rfl (fun _ m=>m.keeps (.refl _)) (a0A rfl rfl h93) ?_;refine d_t 21 rfl rfl (by kernel_rfl) rfl (fun _ m=>m.keeps (.refl _)) (a0A rfl rfl h93) ?_;refine a0e 22 rfl rfl (by kernel_rfl) rfl (.refl _) rfl (a2s h93 rfl) ?_;refine a0n (by kernel_rfl) ?_;refine go 1 ?_;exact a0L ⟨rfl,rfl,rfl,rfl,rfl,(congrArg (fun b=>some (Value.bool b)) (by simp only[b0j,h75,h82,h93,bS,Bool.not_not])),trivial⟩ rfl rfl
           ·refine d_t 17 rfl rfl (by kernel_rfl) rfl (fun _ m=>m.keeps (.refl _)) (a0k rfl rfl h93 (a0a rfl)) ?_;refine d_t 18 rfl rfl (by kernel_rfl) rfl (fun _ m=>m.keeps (.refl _)) (a0k rfl rfl h93 (a3x rfl)) ?_;refine d_t 19 rfl rfl (by kernel_rfl) rfl (fun _ m=>m.keeps (.refl _)) (a0k rfl rfl h93 (a0g he rfl)) ?_;refine d_t 20 rfl rfl (by kernel_rfl) rfl (fun _ m=>m.keeps (.refl _)) (a0k rfl rfl h93 (a2H m0 he rfl (b6H e hlt))) ?_;refine d_t 21 rfl rfl (by kernel_rfl) rfl (fun _ m=>m.keeps (.refl _)) (a0k rfl rfl h93 (a9R rfl rfl)) ?_;refine a0e 22 rfl rfl (by kernel_rfl) rfl (.refl _) rfl (a3b h93 rfl rfl) ?_;refine a0n (by kernel_rfl) ?_;refine go 1 ?_;exact a0L ⟨rfl,rfl,rfl,rfl,rfl,(congrArg (fun b=>some (Value.bool b)) (by simp only[b0j,h75,h82,h93,bS,Bool.not_not])),trivial⟩ rfl rfl
         ·refine cb rfl (fun h99 p99=>?_) (fun h99 p99=>?_)
          ·refine go 13 ?_;refine a0s rfl rfl ?_;exact q_v (congrArg Value.bool (by simp[a1t,a5G,p70,c7v hlt (by simpa using h99)]))
          ·refine go 8 ?_;exact a0M (i+1) ⟨by omega,c4b hn (by simpa using h99)⟩ (by omega) rfl sb rfl
        ·have hU:b0n e.use 3=true:=(show i=3 by omega)▸hn
         refine go 7 ?_;refine a0t rfl (a0H (pl:=[(0,2),(2,2),(4,2)]) he he rfl rfl) ?_;refine go 2 ?_;refine a0f ?_;refine c8L _ _ he rfl rfl rfl rfl rfl rfl rfl ?_;refine go 3 ?_;refine a0f ?_;refine a0b ?_;refine a0f ?_;exact a4H (_) (_) ⟨(by simp only[a1X,p26,p34,p40,p54,p70,p75,if_true,if_false];first|exact .nil|exact .one rfl|exact .cons rfl (.one rfl)),(by simp[a5G,p26,p34,p40,p54,p70,p75,h75]<;>assumption)⟩ sb (by simp only[a1X,a5P,p26,p34,p40,p54,p70,p75,if_true,if_false];rfl) rfl
       ·refine go 3 ?_;refine a0o ?_;refine a0b ?_;refine a0f ?_;exact a4H (_) (_) ⟨(by simp only[a1X,p26,p34,p40,p54,p70,if_true,if_false];first|exact .nil|exact .one rfl|exact .cons rfl (.one rfl)),(by simp[a5G,p26,p34,p40,p54,p70,h26,h34,h40,h54,h70]<;>assumption)⟩ sb (by simp only[a1X,a5P,p26,p34,p40,p54,p70,if_true,if_false];rfl) rfl
   ·intro v3 xs ⟨hF,hO⟩;refine go 4 ?_;refine a0t rfl (a0H (pl:=[(0,1),(1,1),(2,1),(3,1),(4,1),(5,1),(6,1),(7,1),(8,6)]) he he rfl rfl) ?_;refine o_v rfl (a9T T.eqg_96 (b1t (a5P e) c9O) rfl rfl) ?_;refine go 1 ?_;refine sxb 106 rfl (fun h106 p106=>?_) (fun h106 p106=>?_)
    ·refine go 2 ?_;refine a0R rfl rfl h106 (b4u m0 rfl rfl (hF) (fun I2 hI2 hR=>a6t I2 _ _ hR _ [] (fun s=>!a2k s) (fun x hx vs hr=>by cases hr;exact c2h I2 x (c2P hs hx))) rfl rfl ?_);refine go 6 ?_;refine a0s rfl rfl ?_;exact q_v (congrArg Value.bool (by simp only[a1t,h26,hO,h106,bS]))
    ·refine go 8 ?_;refine a0s rfl rfl ?_;exact q_v (congrArg Value.bool (by simp only[a1t,h26,hO,h106,bS]))
theorem c5P (I:IMap) (e:Evt) (hs:SmE e) :
    FnI Tryz.prog 197 #[.agg e.cells.toArray] I (fun u J=>RdS J u (a1O e)):=by
 refine enter Tryz.func197 Tryz.call197 rfl Tryz.ntmps197 rfl (fun w0=>?_);refine go 3 ?_;refine a0B _ rfl rfl rfl (fun g1=>?_);refine go 9 ?_;refine a0d (b4h _ e hs) rfl rfl ?_;refine go 4 ?_;refine cb rfl (fun h3 p3=>?_) (fun h3 p3=>?_)
 ·refine go 8 ?_;refine a0s rfl rfl ?_;exact q_i (by simp only[a1O,show a1t e=false by simpa using h3,if_true];exact RdS.nil')
 ·refine go 8 ?_;refine cb rfl (fun h7 p7=>?_) (fun h7 p7=>?_)
  ·refine go 6 ?_;refine o_v rfl (c5h rfl rfl) ?_;refine go 4 ?_;refine o_v rfl (c5g rfl rfl) ?_;refine go 1 ?_;refine a0c he he rfl rfl rfl rfl rfl rfl rfl (fun v21=>?_);refine a0l (l:=[c9W e.part e.into,c9V e.part e.into]) rfl rfl (.cons rfl (.one rfl)) (fun I21 j21 R21=>?_);refine go 6 ?_;refine a0s rfl rfl ?_;exact q_i (by simp only[a1O,p3,p7,if_true,if_false,Bool.true_eq_false];exact R21)
  ·refine go 8 ?_;refine a0c he he rfl rfl rfl rfl rfl rfl rfl (fun v24=>?_);refine a0l (l:=[e.part]) rfl rfl (.one rfl) (fun I24 j24 R24=>?_);refine go 4 ?_;refine a0s rfl rfl ?_;exact q_i (by simp only[a1O,p3,p7,if_true,if_false,Bool.true_eq_false];exact R24)
theorem c3x (I:IMap) (e:Evt) :
    FnV Tryz.prog 232 #[.agg e.cells.toArray] I (.bool (a5S e)):=by
 refine enter Tryz.func232 Tryz.call232 rfl Tryz.ntmps232 rfl (fun w0=>?_);refine go 3 ?_;refine a0B _ rfl rfl rfl (fun g1=>?_);refine go 10 ?_;refine sxb 7 rfl (fun h7 p7=>?_) (fun h7 p7=>?_)
 ·refine go 6 ?_;refine sxb 13 rfl (fun h13 p13=>?_) (fun h13 p13=>?_)
  ·refine go 6 ?_;refine sxb 19 rfl (fun h19 p19=>?_) (fun h19 p19=>?_)
   ·refine go 6 ?_;refine sxb 25 rfl (fun h25 p25=>?_) (fun h25 p25=>?_)
    ·refine go 6 ?_;refine sxb 31 rfl (fun h31 p31=>?_) (fun h31 p31=>?_)
     ·refine go 9 ?_;refine a0s rfl rfl ?_;exact q_v (congrArg Value.bool (by simp only[a5S,h7,h13,h19,h25,h31,bS]))
     ·refine go 9 ?_;refine a0s rfl rfl ?_;exact q_v (congrArg Value.bool (by simp only[a5S,h7,h13,h19,h25,h31,bS]))
    ·refine go 15 ?_;refine a0s rfl rfl ?_;exact q_v (congrArg Value.bool (by simp only[a5S,h7,h13,h19,h25,bS]))
   ·refine go 21 ?_;refine a0s rfl rfl ?_;exact q_v (congrArg Value.bool (by simp only[a5S,h7,h13,h19,bS]))
  ·refine go 27 ?_;refine a0s rfl rfl ?_;exact q_v (congrArg Value.bool (by simp only[a5S,h7,h13,bS]))
 ·refine go 33 ?_;refine a0s rfl rfl ?_;exact q_v (congrArg Value.bool (by simp only[a5S,h7,bS]))
theorem c6R (I:IMap) (v:Value) (l:List Evt) (hv:RdS I v l) (n:Int) :
    FnV Tryz.prog 171 #[v,.int .i64 n] I (.bool (c2o l n)):=by
 obtain⟨A,c0,rfl,hA,hc,hm⟩:=hv;refine enter Tryz.func171 Tryz.call171 rfl Tryz.ntmps171 rfl (fun w0=>?_);refine go 12 ?_
 refine a0Q (α:=Nat) 0 (fun i=>I)
  (fun i=>[(0,.slice A l.length c0),(1,.int .i64 n),(5,.int .i64 (i:Int))])
  (fun i=>[])
  (fun i=>i≤l.length∧a3h (fun _ e=>a5S e) l i=true)
  (fun i=>l.length-i) ⟨Nat.zero_le _,rfl⟩ rfl sb rfl ?_
 intro i ⟨hi,hn⟩;refine go 8 ?_;refine sxb 10 rfl (fun h10 p10=>?_) (fun h10 p10=>?_)
 ·have hlt:i<l.length:=by omega
  refine go 6 ?_;refine cb rfl (fun h14 p14=>?_) (fun h14 p14=>?_)
  ·have hlt:i<l.length:=by omega
   refine go 8 ?_;obtain⟨b19,o19,w19,e19,c19,r19⟩:=RdA.at_ hA (i:=i) hlt;obtain rfl:=r19;refine o_v rfl (a0h he rfl rfl e19 (i) (by omega) hlt) ?_;refine o_v rfl (a0G he rfl c19 rfl) ?_;refine go 1 ?_;refine a0d (c3x _ _) rfl rfl ?_;refine go 3 ?_;refine cb rfl (fun h22 p22=>?_) (fun h22 p22=>?_)
   ·refine go 11 ?_;refine a0s rfl rfl ?_;exact q_v (congrArg Value.bool (by simp only[c2o,a1j (f:=fun _ e=>a5S e) hlt (by simpa using h22),bS]))
   ·refine go 9 ?_;exact a0M (i+1) ⟨by omega,a1v hn hlt (by simpa using h22)⟩ (by omega) rfl sb rfl
  ·refine go 15 ?_;refine a0s rfl rfl ?_;exact q_v (congrArg Value.bool (by rw[c2o,show decide (((l.length:Nat):Int)≤n)=false from decide_eq_false (by omega)];simp))
 ·refine go 6 ?_;refine a0T rfl ?_;refine go 15 ?_;refine a0s rfl rfl ?_
  have e:i=l.length:=(by omega)
  subst e;exact q_v (congrArg Value.bool (by simp only[c2o,hn,bS]))
end Go.Proofs.YtdapmfkbpnjkmaaGreat
