
import Derived.Test.YtdapmfkbpnjkmaaGreatZPme
import Derived.Ground.NamesProg
import Derived.Ground.SlsfProg
import Derived.Lib.Bytealg
import Derived.Shelf.SlGeneric
import Derived.Shelf.SlSortCmp.NoneTotal
import Derived.Shelf.Small.Strs
import Derived.Shelf.Sort.Plain
import Derived.Test.YtdapmfkbpnjkmaaGreatProg
set_option linter.all false
namespace Go.Sx
open Go
abbrev NU:=ByteArray×ByteArray
theorem b5R:∀{kvs:List (ByteArray×Value)} {k:ByteArray} {v:Value},(kvs.map Prod.fst).Nodup→(k,v)∈kvs→a5t kvs k=some v
 |(k',u)::r,k,v,hn,h=>by
  rw[List.map_cons,List.nodup_cons]at hn
  simp only[a5t]
  rcases List.mem_cons.1 h with h|h
  ·cases h;simp
  ·have:k'≠k:=fun e=>by
    have h9:k∈r.map Prod.fst:=List.mem_map_of_mem (f:=Prod.fst) h
    rw[←e]at h9
    exact hn.1 h9
   rw[if_neg this];exact b5R hn.2 h
theorem b5Q:∀{kvs:List (ByteArray×Value)} {k:ByteArray} {v:Value},a5t kvs k=some v→k∈kvs.map Prod.fst
 |(k',u)::r,k,v,h=>by
  simp only[a5t]at h
  split at h
  ·rename_i e;simp[e]
  ·simp[b5Q h]
theorem Ix.mem {kvs:List (ByteArray×Value)} {l:List Part} {k:ByteArray} {v:Value} (h:Ix kvs l) (hn:(kvs.map Prod.fst).Nodup) (hp:(k,v)∈kvs):∃(i:Nat) (hi:i<l.length),v=ci (i:Nat)∧a0E l k=some l[i]:=by
 have h1:=b5R hn hp
 rw[h k]at h1
 cases hf:l.findIdx? (fun p=>decide (p.name=k)) with
 |none=>rw[hf]at h1;cases h1
 |some i=>
  rw[hf]at h1
  simp only[Option.map_some,Option.some.injEq]at h1
  rw[List.findIdx?_eq_some_iff_getElem]at hf
  obtain⟨hi,hq,hb⟩:=hf;refine⟨i,hi,h1.symm,?_⟩;rw[a0E,List.find?_eq_some_iff_getElem];exact⟨hq,i,hi,rfl,fun j hj=>by simpa using hb j hj⟩
theorem Ix.has {kvs:List (ByteArray×Value)} {l:List Part} {k:ByteArray} (h:Ix kvs l) (hs:(a0E l k).isSome=true):k∈kvs.map Prod.fst:=by
 have h1:=h k
 cases hf:l.findIdx? (fun p=>decide (p.name=k)) with
 |none=>
  exfalso
  rw[List.findIdx?_eq_none_iff]at hf
  obtain⟨p,hp⟩:=Option.isSome_iff_exists.1 hs
  have h2:=List.mem_of_find?_eq_some hp
  have h3:=List.find?_some hp
  rw[hf p h2]at h3;cases h3
 |some i=>rw[hf]at h1;exact b5Q h1
theorem b4Z {l:List Part} {n:ByteArray} (h:upP l n≠a0Z):(a0E l n).isSome=true:=by
 unfold upP at h
 cases hf:a0E l n with
 |none=>rw[hf]at h;exact absurd rfl h
 |some p=>rfl
def b0d (l:List Part) (ks:List ByteArray):List NU:=(ks.filter fun n=>!decide (upP l n=a0Z)).map fun n=>(n,upP l n)
section
variable {l:List Part} {v:ByteArray} {R:List NU} {lst out more:List ByteArray} {kvs todo done:List (ByteArray×Value)}
theorem c2p (ks:List ByteArray):(b0d l ks).map Prod.fst=ks.filter fun n=>!decide (upP l n=a0Z):=by unfold b0d;rw[List.map_map];exact List.map_id _
theorem c2r {ks:List ByteArray} {n u:ByteArray}:(n,u)∈b0d l ks↔n∈ks∧upP l n=u∧u≠a0Z:=by
 unfold b0d;rw[List.mem_map]
 constructor
 ·rintro⟨m,hm,e⟩
  cases e
  have:=List.mem_filter.1 hm
  exact⟨this.1,rfl,by simpa using this.2⟩
 ·rintro⟨h1,rfl,h2⟩;exact⟨n,List.mem_filter.2 ⟨h1,by simpa using h2⟩,rfl⟩
def d0h (l:List Part):Nat:=(l.filter fun p=>!decide (p.into=a0Z)).length
theorem c2q {ks:List ByteArray} (hn:ks.Nodup):(b0d l ks).length≤d0h l:=by
 unfold b0d d0h;rw[List.length_map,show (l.filter fun p=>!decide (p.into=a0Z)).length=((l.filter fun p=>!decide (p.into=a0Z)).map Part.name).length from (List.length_map _).symm];refine List.Nodup.length_le_of_subset (List.filter_sublist.nodup hn) fun n hm=>?_
 have h1:=(List.mem_filter.1 hm).2
 have h2:upP l n≠a0Z:=by simpa using h1
 obtain⟨p,hp⟩:=Option.isSome_iff_exists.1 (b4Z h2)
 have hpn:p.name=n:=by simpa using List.find?_some hp
 refine List.mem_map.2 ⟨p,List.mem_filter.2 ⟨List.mem_of_find?_eq_some hp,?_⟩,hpn⟩;unfold upP at h2
 rw[hp]at h2
 simpa using h2
structure Bfs (l:List Part) (v:ByteArray) (R:List NU) (lst out:List ByteArray):Prop where
 kn:(R.map Prod.fst).Nodup
 rest:∀n u,(n,u)∈R↔(upP l n=u∧u≠a0Z)∧n≠v∧n∉out
 ins:∀n∈out,b8f l v n
 lst':∀x∈lst,x=v∨x∈out
 proc:∀x,(x=v∨x∈out)→x∉lst→∀n,(n,x)∉R
 len:out.length+R.length≤d0h l
theorem Bfs.start (hx:Ix kvs l) (hn:(kvs.map Prod.fst).Nodup) (hd:done.Perm kvs):Bfs l v ((b0d l (done.map Prod.fst)).filter fun p=>!decide (p.1=v)) [v] []:=by
 have hdn:(done.map Prod.fst).Nodup:=((hd.map _).nodup_iff).2 hn
 have hR:∀n u,(n,u)∈(b0d l (done.map Prod.fst)).filter (fun p=>!decide (p.1=v))↔(upP l n=u∧u≠a0Z)∧n≠v:=fun n u=>by
  rw[List.mem_filter,c2r]
  constructor
  ·rintro⟨⟨_,h2⟩,h3⟩;exact⟨h2,by simpa using h3⟩
  ·rintro⟨⟨rfl,h2⟩,h3⟩;refine⟨⟨?_,rfl,h2⟩,by simpa using h3⟩;exact (hd.map Prod.fst).mem_iff.2 (hx.has (b4Z h2))
 refine⟨?_,fun n u=>by rw[hR];simp,fun n h=>(by cases h),fun x h=>.inl (List.mem_singleton.1 h),fun x h hx=>?_,?_⟩
 ·have h1:((b0d l (done.map Prod.fst)).map Prod.fst).Nodup:=by rw[c2p];exact List.filter_sublist.nodup hdn
  exact (List.filter_sublist.map _).nodup h1
 ·rcases h with h|h
  ·exact absurd (List.mem_singleton.2 h) hx
  ·cases h
 ·have:=c2q (l:=l) hdn
  have h2:=List.length_filter_le (fun p:NU=>!decide (p.1=v)) (b0d l (done.map Prod.fst))
  simp only[List.length_nil];omega
def a8w (lst:List ByteArray) (done:List NU):List ByteArray:=(done.filter fun p=>decide (p.2∈lst)).map Prod.fst
theorem a9w {done:List NU} (hd:done.Perm R) {n:ByteArray}:n∈a8w lst done↔∃u,(n,u)∈R∧u∈lst:=by
 unfold a8w;rw[List.mem_map]
 constructor
 ·rintro⟨⟨m,u⟩,hp,rfl⟩
  have:=List.mem_filter.1 hp
  exact⟨u,hd.mem_iff.1 this.1,by simpa using this.2⟩
 ·rintro⟨u,h1,h2⟩;exact⟨(n,u),List.mem_filter.2 ⟨hd.mem_iff.2 h1,by simpa using h2⟩,rfl⟩
def b4K (R:List NU) (more:List ByteArray):List NU:=R.filter fun p=>!decide (p.1∈more)
theorem c3z (h:(R.map Prod.fst).Nodup) (more:List ByteArray):((b4K R more).map Prod.fst).Nodup:=(List.filter_sublist.map _).nodup h
theorem d0m {n u u':ByteArray} (h:(R.map Prod.fst).Nodup) (h1:(n,u)∈R) (h2:(n,u')∈R):u=u':=by
 induction R with
 |nil=>cases h1
 |cons p R ih=>
  rw[List.map_cons,List.nodup_cons]at h
  rcases List.mem_cons.1 h1 with h1|h1
  ·rcases List.mem_cons.1 h2 with h2|h2
   ·rw[←h1]at h2;exact (Prod.mk.inj h2).2.symm
   ·exact absurd (List.mem_map_of_mem (f:=Prod.fst) h2) (by rw[←h1]at h;exact h.1)
  ·rcases List.mem_cons.1 h2 with h2|h2
   ·exact absurd (List.mem_map_of_mem (f:=Prod.fst) h1) (by rw[←h2]at h;exact h.1)
   ·exact ih h.2 h1 h2
theorem c2S {done:List NU} (hk:(R.map Prod.fst).Nodup) (hd:done.Perm R):(a8w lst done).length+(b4K R (a8w lst done)).length=R.length:=by
 have h1:(a8w lst done).length=R.countP (fun p=>decide (p.2∈lst)):=by
  unfold a8w;rw[List.length_map,←List.countP_eq_length_filter];exact hd.countP_eq _
 have h2:b4K R (a8w lst done)=R.filter (fun p=>decide ¬(decide (p.2∈lst)=true)):=by
  unfold b4K;refine List.filter_congr fun p hp=>?_
  rw[Bool.eq_iff_iff]
  simp only[Bool.not_eq_true',decide_eq_false_iff_not,decide_eq_true_eq]
  refine not_congr ?_;rw[a9w hd];exact⟨fun ⟨u,h3,h4⟩=>by rw[d0m hk hp h3];exact h4,fun h=>⟨p.2,hp,h⟩⟩
 rw[h1,h2,←List.countP_eq_length_filter];exact (List.length_eq_countP_add_countP (fun p:NU=>decide (p.2∈lst))).symm
theorem Bfs.step {done:List NU} (hv:(a0E l v).isSome=true) (h:Bfs l v R lst out) (hd:done.Perm R):Bfs l v (b4K R (a8w lst done)) (a8w lst done) (out++a8w lst done):=by
 have hsub:∀{p:NU},p∈b4K R (a8w lst done)↔p∈R∧p.1∉a8w lst done:=fun {p}=>by unfold b4K;rw[List.mem_filter];simp
 refine⟨c3z h.kn _,fun n u=>?_,fun n hn=>?_,fun x hx=>.inr (List.mem_append.2 (.inr hx)),fun x hx hnx n hm=>?_,?_⟩
 ·rw[hsub,h.rest,List.mem_append,not_or]
  simp only[and_assoc]
 ·rcases List.mem_append.1 hn with hn|hn
  ·exact h.ins n hn
  ·obtain⟨u,h1,h2⟩:=(a9w hd).1 hn;obtain⟨⟨h3,h4⟩,h5,h6⟩:=(h.rest n u).1 h1
   have hup:upP l n≠a0Z:=by rw[h3];exact h4
   refine⟨⟨hv,b4Z hup,h5⟩,?_⟩
   rcases h.lst' u h2 with rfl|hu
   ·exact⟨1,by unfold a5O;rw[h3];simp[h4]⟩
   ·obtain⟨_,k,hk⟩:=h.ins u hu;exact⟨k+1,by unfold a5O;rw[h3];simp[h4,hk]⟩
 ·obtain⟨hm1,hm2⟩:=hsub.1 hm
  have hx':x=v∨x∈out:=by
   rcases hx with hx|hx
   ·exact .inl hx
   ·rcases List.mem_append.1 hx with hx|hx
    ·exact .inr hx
    ·exact absurd hx hnx
  by_cases hl:x∈lst
  ·exact hm2 ((a9w hd).2 ⟨x,hm1,hl⟩)
  ·exact h.proc x hx' hl n hm1
 ·have h1:=h.len
  have h2:=c2S (lst:=lst) h.kn hd
  rw[List.length_append];omega
theorem Bfs.over (h:Bfs l v R [] out) {n:ByteArray}:n∈out↔b8f l v n:=by
 refine⟨h.ins n,fun ⟨⟨_,hf,hnv⟩,k,hk⟩=>?_⟩
 have key:∀(k:Nat) (n:ByteArray),n≠v→a5O l v k n=true→n∈out:=by
  intro k
  induction k with
  |zero=>intro n _ h;cases h
  |succ k ih=>
   intro n hn hr
   simp only[a5O,Bool.and_eq_true,Bool.not_eq_true',decide_eq_false_iff_not,Bool.or_eq_true,decide_eq_true_eq]at hr
   obtain⟨h1,h2⟩:=hr;refine Classical.byContradiction fun hc=>?_
   have hR:=(h.rest n (upP l n)).2 ⟨⟨rfl,h1⟩,hn,hc⟩
   by_cases hv:upP l n=v
   ·exact h.proc _ (.inl hv) (by simp) n hR
   ·exact h.proc _ (.inr (ih _ hv (h2.resolve_left hv))) (by simp) n hR
 exact key k n hnv hk
end
end Go.Sx
namespace Go.Proofs.YtdapmfkbpnjkmaaGreat
open Go Go.Sx
set_option linter.all false
set_option maxRecDepth 20000
set_option maxHeartbeats 4000000
instance T.fld_72_0:Has (a3Q Tryz.prog 72 0) (0,true,1):=⟨by kernel_rfl⟩
instance T.fld_72_1:Has (a3Q Tryz.prog 72 1) (1,true,3):=⟨by kernel_rfl⟩
instance T.und_233:Has (Tryz.prog.underlying 233) (.map 9 9):=⟨by kernel_rfl⟩
end Go.Proofs.YtdapmfkbpnjkmaaGreat
set_option linter.all false
namespace Go.Sx
open Go
def sKm:ByteArray:=⟨#[107,109]⟩
def c0K:ByteArray:=⟨#[99,121,99,108,101,115]⟩
def c0L:ByteArray:=⟨#[100,97,109,97,103,101]⟩
def c9u:ByteArray:=⟨#[100,97,121,115]⟩
def d1e:ByteArray:=⟨#[97,103,101]⟩
def d0T:List ByteArray:=[sKm,c0K,c0L,c9u,d1e]
def c8y (s:ByteArray):Bool:=decide (s∈d0T)
def c4X (day a:Int):Ivl:=if a≥day then b5e else ⟨day-max a (day-(1000000000000:Int)),day-max a (day-(1000000000000:Int))⟩
def d0S (p:Part) (s:ByteArray) (day:Int):Ivl:=if s=sKm then p.life.km else if s=c0K then p.life.cycles else if s=c0L then p.life.damage else if s=c9u then c4X day p.since else c4X day p.made
def c9H (p:Part) (s:ByteArray) (day:Int):Ivl×Int:=if c8y s=false then (b5e,15) else if (decide (day<0)||decide (day>40000))=true then (b5e,13) else (d0S p s day,0)
section
variable {p:Part} {s:ByteArray} {day:Int}
end
section
variable {P:Program} {ρ:Option Nat} {n:Sz} {E:Ent} {I I':IMap} {L:LL} {H H0:List Res} {Q:Exit→Act→World→Prop} {ops:Array Oper} {K:Act→World→Prop}
variable {d ty:Nat} {pos:String} {af:Array Edge} {fo x y z:Operand} {as_:List Operand} {ats:Array TypeId} {f:FuncId} {args:List Value}
end
end Go.Sx
namespace Go.Proofs.YtdapmfkbpnjkmaaGreat
open Go Go.Sx
set_option linter.all false
set_option maxRecDepth 20000
set_option maxHeartbeats 4000000
instance T.ty_240:Has (tyK Tryz.prog 240) (false,1):=⟨by kernel_rfl⟩
instance T.und_162:Has (Tryz.prog.underlying 162) (.map 9 160):=⟨by kernel_rfl⟩
instance T.zero_240:Has (a2t Tryz.prog 240) [.nilFunc]:=⟨by kernel_rfl⟩
instance T.zv_160:Has (zvK Tryz.prog 160) (.nilFunc):=⟨by kernel_rfl⟩
end Go.Proofs.YtdapmfkbpnjkmaaGreat
set_option linter.all false
namespace Go.Sx
open Go
theorem b9d {l:List Part} {s:ByteArray} {i:Nat} (hi:i<l.length) (h:a0E (l.drop i) s=a0E l s) (hn:¬l[i].name=s):a0E (l.drop (i+1)) s=a0E l s:=by
 rw[←h,List.drop_eq_getElem_cons hi];unfold a0E;rw[List.find?_cons_of_neg (by simpa using hn)]
theorem c2u {l:List Part} {s:ByteArray} {i:Nat} (hi:i<l.length) (h:a0E (l.drop i) s=a0E l s) (hn:l[i].name=s):a0E l s=some l[i]:=by
 rw[←h,List.drop_eq_getElem_cons hi];unfold a0E;rw[List.find?_cons_of_pos (by simpa using hn)]
theorem c2t {l:List Part} {s:ByteArray} {i:Nat} (hi:¬i<l.length) (h:a0E (l.drop i) s=a0E l s):a0E l s=none:=by
 rw[←h,List.drop_eq_nil_of_le (by omega)];rfl
end Go.Sx
namespace Go.Proofs.YtdapmfkbpnjkmaaGreat
open Go Go.Sx
set_option linter.all false
set_option maxRecDepth 20000
set_option maxHeartbeats 4000000
theorem c4K (I:IMap) (v:Value) (l:List Part) (hv:RdS I v l) (s:ByteArray) :
    FnE Tryz.prog 27 #[.agg #[v],.string s] I (PartIs I (a0E l s)):=by
 have hv0:=hv
 obtain⟨A,c0,rfl,hA,hc,hm⟩:=hv;refine enter Tryz.func27 Tryz.call27 rfl Tryz.ntmps27 rfl (fun w0=>?_);refine go 3 ?_;refine a0B _ rfl rfl rfl (fun g2=>?_);refine go 1 ?_;refine a0j he rfl (fun g4=>?_);refine go 13 ?_;refine a0f ?_;refine a0b ?_
 refine a0Q (α:=Nat) 0 (fun i=>I)
  (fun i=>[(1,.string s),(4,.pointer (some ⟨g4,0,none⟩)),(9,.slice A l.length c0),(10,.int .i64 (l.length:Int)),(11,.int .i64 ((i:Nat):Int))])
  (fun i=>[.blk g4 48 [.string ⟨#[]⟩,.string ⟨#[]⟩,.string ⟨#[]⟩,.string ⟨#[]⟩,.int .i64 0,.int .i64 0,.bool false,.slice none 0 0,.int .i64 0,.int .i64 0,.int .i64 0,.int .i64 0,.int .i64 0,.int .i64 0]])
  (fun i=>i≤l.length∧a0E (l.drop i) s=a0E l s)
  (fun i=>l.length-i) ⟨Nat.zero_le _,rfl⟩ rfl sb rfl ?_
 intro i ⟨hi,hn⟩;refine go 6 ?_;refine cb rfl (fun h12 p12=>?_) (fun h12 p12=>?_)
 ·have hlt:i<l.length:=by omega
  refine go 6 ?_;obtain⟨b13,o13,w13,e13,c13,r13⟩:=RdA.at_ hA (i:=i) hlt;obtain⟨q13,rfl,B13,d13,rfl,hB13,hd13,hm13⟩:=r13;refine o_v rfl (a0h he rfl rfl e13 (i) (by omega) hlt) ?_;refine o_v rfl (a0G he rfl c13 rfl) ?_;refine go 1 ?_;refine a0j he rfl (fun g7=>?_);refine go 1 ?_;refine a0p _ he rfl rfl rfl rfl rfl rfl ?_;refine go 10 ?_;refine cb rfl (fun h18 p18=>?_) (fun h18 p18=>?_)
  ·refine go 4 ?_;refine a0f ?_;refine a0p _ he rfl rfl rfl rfl rfl rfl ?_;refine go 9 ?_;refine a1F rfl ⟨_,_,_,rfl,m0,.inr ⟨_,he,rfl,rfl⟩⟩ rfl ?_;exact q_e (PartIs.of (c2u hlt hn p18) ⟨_,rfl,B13,d13,rfl,hB13,hd13,hm13⟩)
  ·refine go 8 ?_;refine a0b ?_;exact a0M (i+1) ⟨by omega,b9d hlt hn p18⟩ (by omega) rfl sb rfl
 ·refine go 8 ?_;refine a0t rfl (a0H (pl:=[(0,1),(1,1),(2,1),(3,1),(4,1),(5,1),(6,1),(7,1),(8,6)]) he he rfl rfl) ?_;refine go 1 ?_;refine a0p _ he rfl rfl rfl rfl rfl rfl ?_;refine go 4 ?_;refine a1F rfl ⟨_,_,_,rfl,m0,.inr ⟨_,he,rfl,rfl⟩⟩ rfl ?_;exact q_e (PartIs.none (c2t (by omega) hn))
end Go.Proofs.YtdapmfkbpnjkmaaGreat
set_option linter.all false
namespace Go.Sx
open Go
def a6g (l:List Part):Nat→ByteArray→List ByteArray
 |0,_=>[]
 |k+1,n=>if (a0E l n).isSome=true then n::(if upP l n=a0Z then [] else a6g l k (upP l n)) else []
section
variable {l:List Part} {n s v z:ByteArray} {out:List ByteArray} {k N:Nat}
theorem c4j (hk:¬l.length+1≤out.length) (h:(a0E l n).isSome=false) (hq:out++a6g l (l.length+1-out.length) n=a6g l N s):a6g l N s=out:=by
 rw[←hq];obtain⟨m,hm⟩:∃m,l.length+1-out.length=m+1:=⟨l.length-out.length,by omega⟩;rw[hm];simp[a6g,h]
theorem c7F (hk:¬l.length+1≤out.length) (h:(a0E l n).isSome=true) (h0:upP l n=a0Z) (hq:out++a6g l (l.length+1-out.length) n=a6g l N s):a6g l N s=out++[n]:=by
 rw[←hq];obtain⟨m,hm⟩:∃m,l.length+1-out.length=m+1:=⟨l.length-out.length,by omega⟩;rw[hm];simp[a6g,h,h0]
theorem c4i (hk:¬l.length+1≤out.length) (h:(a0E l n).isSome=true) (h0:¬upP l n=a0Z) (hq:out++a6g l (l.length+1-out.length) n=a6g l N s):(out++[n])++a6g l (l.length+1-(out++[n]).length) (upP l n)=a6g l N s:=by
 rw[←hq]
 have hm:l.length+1-out.length=(l.length+1-(out++[n]).length)+1:=by rw[List.length_append,List.length_singleton];omega
 rw[hm];simp[a6g,h,h0]
theorem c7E (hk:l.length+1≤out.length) (hq:out++a6g l (l.length+1-out.length) n=a6g l N s):a6g l N s=out:=by
 rw[←hq,Nat.sub_eq_zero_of_le hk];simp[a6g]
end
section
variable {p:Part} {s:ByteArray} {day:Int}
end
section
variable {st:List Part} {e:Evt} {d:Ivl} {i:Nat} {ns:List ByteArray}
end
end Go.Sx
namespace Go.Proofs.YtdapmfkbpnjkmaaGreat
open Go Go.Sx
set_option linter.all false
set_option maxRecDepth 20000
set_option maxHeartbeats 4000000
instance T.ty_72:Has (tyK Tryz.prog 72) (true,4):=⟨by kernel_rfl⟩
theorem c0t (I:IMap) (v:Value) (l:List Part) (hv:RdS I v l) (s:ByteArray) :
    FnE Tryz.prog 59 #[.agg #[v],.string s] I (PartIs I (a0E l s)):=by
 have hv0:=hv
 obtain⟨A,c0,rfl,hA,hc,hm⟩:=hv;refine enter Tryz.func59 Tryz.call59 rfl Tryz.ntmps59 rfl (fun w0=>?_);refine go 3 ?_;refine a0B _ rfl rfl rfl (fun g2=>?_);refine go 1 ?_;refine a0j he rfl (fun g4=>?_);refine go 8 ?_;refine a0d (a9I _ _ l hv0 s) rfl rfl ?_;refine go 10 ?_;refine cb rfl (fun h11 p11=>?_) (fun h11 p11=>?_)
 ·refine go 3 ?_;refine a0t rfl (a0H (pl:=[(0,1),(1,1),(2,1),(3,1),(4,1),(5,1),(6,1),(7,1),(8,6)]) he he rfl rfl) ?_;refine go 1 ?_;refine a0p _ he rfl rfl rfl rfl rfl rfl ?_;refine go 5 ?_;refine a1F rfl ⟨_,_,_,rfl,m0,.inr ⟨_,he,rfl,rfl⟩⟩ rfl ?_;exact q_e (PartIs.none (((a2z (fun p:Part=>decide (p.name=s)) l).resolve_right (by rintro⟨k,hk,e,_⟩;omega)).2))
 ·refine go 7 ?_;obtain⟨k,hk,ek,hF⟩:=(a2z (fun p:Part=>decide (p.name=s)) l).resolve_left (fun h=>by omega)
  have hF:a0E l s=some l[k]:=hF
  obtain⟨b16,o16,w16,e16,c16,r16⟩:=RdA.at_ hA (i:=k) hk;obtain⟨q16,rfl,B16,d16,rfl,hB16,hd16,hm16⟩:=r16;refine o_v rfl (a0h he rfl rfl e16 (k) ek hk) ?_;refine o_v rfl (a0G he rfl c16 rfl) ?_;refine go 1 ?_;refine a0p _ he rfl rfl rfl rfl rfl rfl ?_;refine go 4 ?_;refine a1F rfl ⟨_,_,_,rfl,m0,.inr ⟨_,he,rfl,rfl⟩⟩ rfl ?_;exact q_e (PartIs.of hF ⟨_,rfl,B16,d16,rfl,hB16,hd16,hm16⟩)
end Go.Proofs.YtdapmfkbpnjkmaaGreat
set_option linter.all false
namespace Go.Sx
open Go
structure Dut where
 name:ByteArray
 kind:ByteArray
 key:ByteArray
 after:Int
 within:Int
 deriving DecidableEq
structure Due where
 part:ByteArray
 rule:ByteArray
 day:Int
 deriving DecidableEq
def Dut.cells (d:Dut):List Value:=[.string d.name,.string d.kind,.string d.key,ci d.after,ci d.within]
def Due.cells (d:Due):List Value:=[.string d.part,.string d.rule,ci d.day]
instance:Enc Dut where
 k:=5
 rd _ vs x:=vs=x.cells
 len h:=by rw[h];rfl
 mono _ h:=h
 one h:=by rw[h];rfl
instance:Enc Due where
 k:=3
 rd _ vs x:=vs=x.cells
 len h:=by rw[h];rfl
 mono _ h:=h
 one h:=by rw[h];rfl
section
variable {α:Type} [DecidableEq α] {lt:α→α→Bool}
def a4B (lt:α→α→Bool) (x:α):List α→List α
 | []=>[x]
 |y::l=>if lt y x=true then y::a4B lt x l else if y=x then y::l else x::y::l
def a9Z (lt:α→α→Bool) (l:List α):List α:=l.foldl (fun a x=>a4B lt x a) []
theorem a8D {x z:α}:∀{l:List α},z∈a4B lt x l↔z=x∨z∈l
 | []=>by simp[a4B]
 |y::l=>by
  simp only[a4B]
  split
  ·simp only[List.mem_cons,a8D (l:=l)]
   constructor
   ·rintro (h|h|h)
    ·exact .inr (.inl h)
    ·exact .inl h
    ·exact .inr (.inr h)
   ·rintro (h|h|h)
    ·exact .inr (.inl h)
    ·exact .inl h
    ·exact .inr (.inr h)
  ·split
   ·rename_i h1 h2
    subst h2
    simp only[List.mem_cons]
    exact⟨.inr,fun h=>h.elim .inl id⟩
   ·simp only[List.mem_cons]
def SrtU (lt:α→α→Bool) (l:List α):Prop:=l.Pairwise fun a b=>lt a b=true
theorem b5E (htr:∀a b c,lt a b=true→lt b c=true→lt a c=true) {x:α}:∀{l:List α},(∀y∈l,lt y x=false→y≠x→lt x y=true)→SrtU lt l→SrtU lt (a4B lt x l)
 | [],_,_=>by simp[a4B,SrtU]
 |y::l,ht,h=>by
  obtain⟨h1,h2⟩:=List.pairwise_cons.1 h
  simp only[a4B]
  split
  ·rename_i hy
   refine List.pairwise_cons.2 ⟨fun z hz=>?_,b5E htr (fun z hz=>ht z (by simp[hz])) h2⟩
   rcases a8D.1 hz with rfl|hz
   ·exact hy
   ·exact h1 z hz
  ·split
   ·exact h
   ·rename_i hy hn
    have hxy:=ht y (by simp) (by simpa using hy) hn
    refine List.pairwise_cons.2 ⟨fun z hz=>?_,h⟩
    rcases List.mem_cons.1 hz with rfl|hz
    ·exact hxy
    ·exact htr _ _ _ hxy (h1 z hz)
theorem c0V {z:α}:∀{l a:List α},z∈l.foldl (fun a x=>a4B lt x a) a↔z∈a∨z∈l
 | [],a=>by simp
 |x::l,a=>by
  rw[List.foldl_cons,c0V,a8D,List.mem_cons]
  constructor
  ·rintro ((h|h)|h)
   ·exact .inr (.inl h)
   ·exact .inl h
   ·exact .inr (.inr h)
  ·rintro (h|h|h)
   ·exact .inl (.inr h)
   ·exact .inl (.inl h)
   ·exact .inr h
theorem b6A {z:α} {l:List α}:z∈a9Z lt l↔z∈l:=by unfold a9Z;rw[c0V];simp
theorem b0U (htr:∀a b c,lt a b=true→lt b c=true→lt a c=true):∀{l a:List α},(∀x y,(x∈a∨x∈l)→(y∈a∨y∈l)→lt y x=false→y≠x→lt x y=true)→SrtU lt a→SrtU lt (l.foldl (fun a x=>a4B lt x a) a)
 | [],a,_,h=>h
 |x::l,a,ht,h=>by
  rw[List.foldl_cons];refine b0U htr (fun u v hu hv=>?_) (b5E htr (fun y hy=>ht x y (.inr (by simp)) (.inl hy)) h)
  have hm:∀w,(w∈a4B lt x a∨w∈l)→(w∈a∨w∈x::l):=fun w hw=>by
   rcases hw with hw|hw
   ·rcases a8D.1 hw with rfl|hw
    ·exact .inr (by simp)
    ·exact .inl hw
   ·exact .inr (by simp[hw])
  exact ht u v (hm u hu) (hm v hv)
theorem b6B (htr:∀a b c,lt a b=true→lt b c=true→lt a c=true) {l:List α} (ht:∀x∈l,∀y∈l,lt y x=false→y≠x→lt x y=true):SrtU lt (a9Z lt l):=
 b0U htr (fun x y hx hy=>ht x (hx.elim (fun h=>by cases h) id) y (hy.elim (fun h=>by cases h) id)) List.Pairwise.nil
theorem SrtU.uniq (hi:∀a,lt a a=false) (htr:∀a b c,lt a b=true→lt b c=true→lt a c=true):∀{l m:List α},SrtU lt l→SrtU lt m→(∀z,z∈l↔z∈m)→l=m
 | [],[],_,_,_=>rfl
 | [],y::m,_,_,h=>by have:=(h y).2 (by simp);cases this
 |x::l,[],_,_,h=>by have:=(h x).1 (by simp);cases this
 |x::l,y::m,h1,h2,h=>by
  obtain⟨a1,b1⟩:=List.pairwise_cons.1 h1;obtain⟨a2,b2⟩:=List.pairwise_cons.1 h2
  have e:x=y:=by
   rcases List.mem_cons.1 ((h x).1 (by simp)) with e|hx
   ·exact e
   rcases List.mem_cons.1 ((h y).2 (by simp)) with e|hy
   ·exact e.symm
   ·have:=htr _ _ _ (a1 y hy) (a2 x hx)
    rw[hi]at this;cases this
  subst e
  have hn1:x∉l:=fun hm=>by have:=a1 x hm;rw[hi]at this;cases this
  have hn2:x∉m:=fun hm=>by have:=a2 x hm;rw[hi]at this;cases this
  rw[SrtU.uniq hi htr b1 b2 fun z=>?_]
  constructor
  ·intro hz
   rcases List.mem_cons.1 ((h z).1 (by simp[hz])) with rfl|hz2
   ·exact absurd hz hn1
   ·exact hz2
  ·intro hz
   rcases List.mem_cons.1 ((h z).2 (by simp[hz])) with rfl|hz2
   ·exact absurd hz hn2
   ·exact hz2
theorem SrtU.nodup (hi:∀a,lt a a=false) {l:List α} (h:SrtU lt l):l.Nodup:=by
 rw[List.nodup_iff_pairwise_ne];exact h.imp fun h1 e=>by subst e;rw[hi]at h1;cases h1
end
def b0z:List Int→Option Int
 | []=>none
 |x::l=>some (l.foldl min x)
section
variable {ds:List Dut} {c:List Kind} {l:List Evt} {p:ByteArray} {day:Int}
end
end Go.Sx
set_option linter.all false
namespace Go.Sx
open Go
theorem b6s (c:List Kind):∀(l:List Evt) (st s:List Part) (z:Int),a1P c st l=some s↔(a5H c st z l).2.2=0∧(a5H c st z l).1=s
 | [],st,s,z=>by simp[a1P,a5H]
 |e::l,st,s,z=>by
  simp only[a1P,a5H]
  by_cases h:(a0q c st e).2=0
  ·rw[if_pos h,if_pos h];exact b6s c l _ s _
  ·rw[if_neg h,if_neg h]
   constructor
   ·intro h2;cases h2
   ·intro h2;exact absurd h2.1 h
theorem c0J {c:List Kind}:∀{l:List Evt} {st s:List Part},VS c st→a1P c st l=some s→VS c s
 | [],st,s,h,hr=>by simp only[a1P]at hr;cases hr;exact h
 |e::l,st,s,h,hr=>by
  simp only[a1P]at hr
  by_cases h2:(a0q c st e).2=0
  ·rw[if_pos h2]at hr
   obtain⟨p',hp⟩:=b1V h2;rw[b1i hp]at hr
   exact c0J hp.valid hr
  ·rw[if_neg h2]at hr;cases hr
theorem b3w {c:List Kind}:∀{l:List Evt} {st s:List Part},VS c st→a1P c st l=some s→s.length≤st.length+l.length
 | [],st,s,h,hr=>by simp only[a1P]at hr;cases hr;simp
 |e::l,st,s,h,hr=>by
  simp only[a1P]at hr
  by_cases h2:(a0q c st e).2=0
  ·rw[if_pos h2]at hr
   obtain⟨p',hp⟩:=b1V h2;rw[b1i hp]at hr
   have h3:=b3w hp.valid hr
   have h4:=c9k (x:=p') h.inc
   rw[List.length_cons];omega
  ·rw[if_neg h2]at hr;cases hr
theorem b3v {c:List Kind} (K:List Evt):∀{l:List Evt} {st s:List Part},VS c st→(∀e∈l,e∈K)→(∀x∈st,(∃e∈K,e.part=x.name)∧(x.into≠a0Z→∃e∈K,e.op=2∧e.part=x.name∧e.into=x.into))→a1P c st l=some s →
  ∀x∈s,(∃e∈K,e.part=x.name)∧(x.into≠a0Z→∃e∈K,e.op=2∧e.part=x.name∧e.into=x.into)
 | [],st,s,h,hK,h0,hr=>by simp only[a1P]at hr;cases hr;exact h0
 |e::l,st,s,h,hK,h0,hr=>by
  simp only[a1P]at hr
  by_cases h2:(a0q c st e).2=0
  ·rw[if_pos h2]at hr
   obtain⟨p',hp⟩:=b1V h2;rw[b1i hp]at hr
   refine b3v K hp.valid (fun f hf=>hK f (by simp[hf])) (fun x hx=>?_) hr
   have he:=hK e (by simp)
   rcases (a3s h.inc).1 hx with rfl|⟨hx,_⟩
   ·have hn:=hp.name
    refine⟨⟨e,he,hn.symm⟩,fun hi=>?_⟩
    rcases hp.how with ⟨_,_,_,_,rfl⟩|⟨p,h1,_,h3⟩
    ·exact absurd rfl hi
    ·obtain⟨hpm,hpn⟩:=(a1s h.inc).1 h1
     have hold:p.into≠a0Z→∃e∈K,e.op=2∧e.part=p.name∧e.into=p.into:=(h0 p hpm).2
     rcases h3 with ⟨o1,q,_,_,_,_,_,_,rfl⟩|⟨_,_,rfl⟩|⟨_,_,rfl⟩|⟨_,rfl⟩|⟨_,_,rfl⟩|⟨_,_,_,rfl⟩
     ·exact⟨e,he,o1,hn.symm,rfl⟩
     ·exact absurd rfl hi
     ·exact hold hi
     ·exact hold hi
     ·exact hold hi
     ·exact hold hi
   ·exact h0 x hx
  ·rw[if_neg h2]at hr;cases hr
section
variable {c:List Kind} {l:List Rep} {t:List Int} {E:List Evt} {day:Int} {s:List Part}
theorem c7Y (hc:a1g c=true):a1P c [] (a0U (upD E day))=some s↔(a6K c E day).2.2=0∧(a6K c E day).1=s:=by
 rw[c9Y,c6Z hc];exact b6s c _ _ _ _
theorem c3C (h:(a1P c [] (a0U E)).isSome=true) (day:Int):∃s,a1P c [] (a0U (upD E day))=some s:=by
 rw[c3O E day,b6r]at h
 cases hs:a1P c [] (a0U (upD E day)) with
 |none=>rw[hs]at h;cases h
 |some s=>exact⟨s,rfl⟩
theorem b0v (ht:t∈a3d c l):a1E c l t 0=true∧a1g c=true∧(∀r∈l,a0w r=true)∧t∈a2b l:=by
 have h:=b5H ((b5u t).1 ht)
 exact⟨h,a6W h,(a2g h).2,b4m ht⟩
theorem c2f (hv:∀r∈l,a0w r=true) (ht:t∈a2b l) (i:Nat):c4H l t i=gE 40001 l t i:=by
 obtain⟨htl,hb⟩:=a5w.1 ht
 rcases Nat.lt_or_ge i l.length with hi|hi
 ·have h2:i<t.length:=by omega
  rw[b1x hi h2,gE,a2K hi h2]
  have h0:=(hb i hi h2).1
  show _=a3L 40001 l[i] t[i]
  unfold a3L;rw[if_pos h0]
  cases ho:l[i].options[t[i].toNat]? with
  |none=>rfl
  |some e=>
   have:=a2R (a3a (hv _ (List.getElem_mem hi)) e (List.mem_of_getElem? ho))
   show some e=if e.day<40001 then some e else none
   rw[if_pos (by omega)]
 ·unfold c4H gE at2;rw[List.getElem?_eq_none hi]
theorem c2j (hv:∀r∈l,a0w r=true) (ht:t∈a2b l):b0k 40001 l t=a2U l t l.length:=by
 rw[b4E (a5w.1 ht).1];unfold a2U;exact b5s fun i _=>(c2f hv ht i).symm
theorem b1C (ht:t∈a3d c l):a1L l t=(a2U l t l.length,0)∧(a1P c [] (a0U (a2U l t l.length))).isSome=true:=by
 obtain⟨hg,hc,hv,ha⟩:=b0v ht
 have hi:=(b5u t).1 ht
 rw[c8A hg,c2j hv ha]at hi
 refine⟨?_,hi⟩;obtain⟨htl,hb⟩:=a5w.1 ha;unfold a1L;rw[if_pos]
 simp only[Bool.and_eq_true,decide_eq_true_eq]
 refine⟨by omega,b1g (fun i h1 h2=>?_) htl⟩
 have:=hb i h1 h2
 simp[okK];omega
theorem c5Q {e:Evt} (h:e∈a2U l t l.length):∃i,∃hi:i<l.length,e∈l[i].options:=by
 unfold a2U at h
 obtain⟨i,hi,h⟩:=List.mem_filterMap.1 h
 have hi:=List.mem_range.1 hi
 unfold c4H at2 at h
 rw[List.getElem?_eq_getElem hi]at h
 cases ht:t[i]? with
 |none=>rw[ht]at h;cases h
 |some k=>
  rw[ht]at h
  simp only[Option.join]at h
  exact⟨i,hi,List.mem_of_getElem? h⟩
theorem c2i (l:List Rep) (t:List Int):(a2U l t l.length).length≤l.length:=b1y l t l.length
structure Case (c:List Kind) (l:List Rep) (t:List Int) (day:Int) (s:List Part):Prop where
 vs:VS c s
 at0:(a6K c (a2U l t l.length) day).2.2=0
 at1:(a6K c (a2U l t l.length) day).1=s
 runs:a1P c [] (a0U (upD (a2U l t l.length) day))=some s
 own:∀x∈s,∃i,∃hi:i<l.length,nm l[i] x.name
 link:∀x∈s,x.into≠a0Z→∃i,∃hi:i<l.length,nm l[i] x.name∧nm l[i] x.into
 len:s.length≤l.length
theorem b9q (ht:t∈a3d c l) (day:Int):Case c l t day (a6K c (a2U l t l.length) day).1:=by
 obtain⟨hg,hc,hv,ha⟩:=b0v ht;obtain⟨s,hs⟩:=c3C (b1C ht).2 day;obtain⟨h1,h2⟩:=(c7Y hc).1 hs;rw[h2]
 have hn:=c0J (c1y hc) hs
 have hf:=b3v (upD (a2U l t l.length) day) (c1y hc) (fun e he=>a4k.1 he) (fun x hx=>by cases hx) hs
 have hm:∀e∈upD (a2U l t l.length) day,∃i,∃hi:i<l.length,a0w l[i]=true∧e∈l[i].options:=fun e he=>by
  obtain⟨i,hi,h⟩:=c5Q (List.mem_filter.1 he).1;exact⟨i,hi,hv _ (List.getElem_mem hi),h⟩
 refine⟨hn,h1,h2,hs,fun x hx=>?_,fun x hx hi=>?_,?_⟩
 ·obtain⟨e,he,hp⟩:=(hf x hx).1;obtain⟨i,hi,hvi,ho⟩:=hm e he;exact⟨i,hi,hvi,e,ho,by rw[←hp];unfold a1D;split<;>simp⟩
 ·obtain⟨e,he,h2,hp,hq⟩:=(hf x hx).2 hi;obtain⟨i,hi,hvi,ho⟩:=hm e he;exact⟨i,hi,⟨hvi,e,ho,by rw[←hp];simp[a1D,h2]⟩,⟨hvi,e,ho,by rw[←hq];simp[a1D,h2]⟩⟩
 ·have h3:=b3w (c1y hc) hs
  rw[a4j]at h3
  have h4:(upD (a2U l t l.length) day).length≤(a2U l t l.length).length:=List.length_filter_le _ _
  have h5:=c2i l t
  simp at h3;omega
end
def nmB (r:Rep) (z:ByteArray):Bool:=a0w r&&r.options.any fun e=>decide (z∈a1D e)
theorem a3D {r:Rep} {z:ByteArray}:nmB r z=true↔nm r z:=by
 simp[nmB,nm,List.any_eq_true]
def b0s (l:List Rep) (p:ByteArray):Option Nat:=(List.range l.length).find? fun i=>((l[i]?).map fun r=>nmB r p).getD false
def ofN (l:List Rep) (R:Nat→Nat) (p:ByteArray):List Nat:=match b0s l p with
 |some k=>a2c R l.length (R k)
 |none=>[]
def a1V (l:List Rep) (R:Nat→Nat) (p:ByteArray):List Rep:=a4O l (ofN l R p)
section
variable {l:List Rep} {R:Nat→Nat} {p q:ByteArray} {k:Nat}
theorem b4k (h:b0s l p=some k):∃hk:k<l.length,nm l[k] p:=by
 unfold b0s at h
 have h1:=List.mem_range.1 (List.mem_of_find?_eq_some h)
 have h2:=List.find?_some h
 simp only[List.getElem?_eq_getElem h1,Option.map_some,Option.getD_some]at h2
 exact⟨h1,a3D.1 h2⟩
theorem a9k:b0s l p=none↔∀k (hk:k<l.length),¬nm l[k] p:=by
 unfold b0s;rw[List.find?_eq_none]
 constructor
 ·intro h k hk hn
  have:=h k (List.mem_range.2 hk)
  simp only[List.getElem?_eq_getElem hk,Option.map_some,Option.getD_some]at this
  exact this (a3D.2 hn)
 ·intro h k hk
  have hk:=List.mem_range.1 hk
  simp only[List.getElem?_eq_getElem hk,Option.map_some,Option.getD_some]
  intro hn;exact h k hk (a3D.1 hn)
theorem b4x (hR:Rts l R) (hk:k<l.length) (h:nm l[k] p):ofN l R p=a2c R l.length (R k):=by
 unfold ofN
 cases hf:b0s l p with
 |none=>exact absurd h (a9k.1 hf k hk)
 |some j=>
  obtain⟨hj,hn⟩:=b4k hf
  show a2c R l.length (R j)=_
  rw[hR.share hj hk hn h]
theorem b9W (h:∀k (hk:k<l.length),¬nm l[k] p):ofN l R p=[]:=by unfold ofN;rw[a9k.2 h]
theorem b7v {i:Nat} (h:i∈ofN l R p):i<l.length:=by
 unfold ofN at h
 split at h
 ·exact b9J h
 ·cases h
theorem a7O {r:Rep} (h:r∈a1V l R p):r∈l:=c0i h
theorem a6x:(a1V l R p).length≤l.length:=by
 unfold a1V;rw[a5k fun i hi=>b7v hi]
 have h1:(ofN l R p).length≤(List.range l.length).length:=by
  unfold ofN
  split
  ·exact List.length_filter_le _ _
  ·simp
 simpa using h1
end
end Go.Sx
set_option linter.all false
namespace Go.Sx
open Go
structure Plc where
 into:ByteArray
 slot:ByteArray
 deriving DecidableEq
def Plc.cells (x:Plc):List Value:=[.string x.into,.string x.slot]
instance:Enc Plc where
 k:=2
 rd _ vs x:=vs=x.cells
 len h:=by rw[h];rfl
 mono _ h:=h
 one h:=by rw[h];rfl
def a2h (a b:Plc):Bool:=sLt a.into b.into||(decide (a.into=b.into)&&sLt a.slot b.slot)
theorem a8j (a:Plc):a2h a a=false:=by simp[a2h,a1r]
theorem a6z (a b c:Plc) (h1:a2h a b=true) (h2:a2h b c=true):a2h a c=true:=by
 simp only[a2h,Bool.or_eq_true,Bool.and_eq_true,decide_eq_true_eq]at *
 rcases h1 with h1|⟨h1,h3⟩<;>rcases h2 with h2|⟨h2,h4⟩
 ·exact .inl (a2A h1 h2)
 ·exact .inl (by rw[←h2];exact h1)
 ·exact .inl (by rw[h1];exact h2)
 ·exact .inr ⟨h1.trans h2,a2A h3 h4⟩
theorem a9F {x y:Plc} (h:a2h y x=false) (hn:y≠x):a2h x y=true:=by
 simp only[a2h,Bool.or_eq_false_iff,Bool.and_eq_false_iff,decide_eq_false_iff_not,Bool.or_eq_true,Bool.and_eq_true,decide_eq_true_eq]at *
 obtain⟨h1,h2⟩:=h
 cases h3:sLt x.into y.into with
 |true=>exact .inl rfl
 |false=>
  have e:=b2j h1 h3
  refine .inr ⟨e.symm,?_⟩
  rcases h2 with h2|h2
  ·exact absurd e h2
  ·cases h4:sLt x.slot y.slot with
   |true=>rfl
   |false=>
    have e2:=b2j h2 h4
    exact absurd (by cases x;cases y;simp_all) hn
theorem b2k {x y:ByteArray} (h:sLt y x=false) (hn:y≠x):sLt x y=true:=by
 cases h2:sLt x y with
 |true=>rfl
 |false=>exact absurd (b2j h h2) hn
def b1Z (s:List Part) (p:ByteArray):Part:=(a0E s p).getD zPart
def a7P (p:ByteArray) (s:List Part):Plc:=⟨(b1Z s p).into,(b1Z s p).slot⟩
def a7m (y z:ByteArray) (q:Part):Bool:=decide (q.into=y)&&decide (q.slot=z)
def a3z (y z:ByteArray) (s:List Part):ByteArray:=((s.find? (a7m y z)).map Part.name).getD a0Z
def rootGo (s:List Part):Nat→ByteArray→ByteArray
 |0,_=>a0Z
 |n+1,p=>match a0E s p with
  |none=>a0Z
  |some q=>if q.into=a0Z then p else rootGo s n q.into
def a7k (p:ByteArray) (s:List Part):ByteArray:=rootGo s s.length p
def a6h (c:List Kind) (l own:List Rep):Int:=
 if a1g c=false then 1 else if l.any (fun r=>!a0w r)=true then 1 else if own=[] then 2 else if (a2m c own 4096).2≠0 then (a2m c own 4096).2 else if (a2m c own 4096).1.length=4096 then 7 else 0
def d0d (c:List Kind) (own:List Rep) (day:Int):List (List Part):=(a2m c own 4096).1.map fun t=>(a6K c (a1L own t).1 day).1
def a9d (c:List Kind) (own:List Rep) (p:ByteArray) (day:Int):List (List Part):=(d0d c own day).filter fun s=>(a0E s p).isSome
def a7V {α:Type} [DecidableEq α] (lt:α→α→Bool) (f:List Part→α) (c:List Kind) (l own:List Rep) (p:ByteArray) (day:Int):List α×Int:=
 if a6h c l own≠0 then ([],a6h c l own) else if a9d c own p day=[] then ([],2) else (a9Z lt ((a9d c own p day).map f),0)
def b0l (c:List Kind) (k:ByteArray):Nat:=c.findIdx fun x=>decide (x.name=k)
theorem c6M {c:List Kind} {k s p:ByteArray} (hc:a1g c=true) (h:a4l c k s p=true):b0l c p<b0l c k:=by
 unfold a4l b3z at h
 cases hk:a2y c k with
 |none=>rw[hk]at h;cases h
 |some kd=>
  rw[hk]at h
  obtain⟨x,hx⟩:∃x,kd.slots.find? (fun x=>decide (x.name=s))=some x:=by
   cases hx:kd.slots.find? (fun x=>decide (x.name=s)) with
   |none=>simp only[Option.getD_some,hx]at h;cases h
   |some x=>exact⟨x,rfl⟩
  simp only[Option.getD_some,hx]at h
  have hxm:x∈kd.slots:=List.mem_of_find?_eq_some hx
  have hp:p∈x.kinds:=of_decide_eq_true h
  have hkn:kd.name=k:=by simpa using List.find?_some hk
  obtain⟨i,hi,hkd⟩:=List.getElem_of_mem (List.mem_of_find?_eq_some hk)
  simp only[a1g,Bool.and_eq_true]at hc
  have h1:=a8y.1 hc.1 i hi
  rw[hkd]at h1
  simp only[a2W,Bool.and_eq_true,Bool.not_eq_true',Bool.or_eq_false_iff]at h1
  obtain⟨sl,h2⟩:=a3X h1.2 hxm
  simp only[a3I,Bool.and_eq_true]at h2
  obtain⟨ks,h3⟩:=a3X h2.2 hp
  simp only[a7c,Bool.and_eq_true]at h3
  have hpm:∃z∈c.take i,decide (z.name=p)=true:=by
   have h4:=h3.2
   unfold c5Z at h4
   split at h4
   ·rename_i z hz
    exact⟨z,List.mem_of_find?_eq_some hz,by simpa using List.find?_some hz⟩
   ·cases h4
  have hkm:¬ ∃z∈c.take i,decide (z.name=k)=true:=by
   have h4:=h1.1.1.1
   rw[a9p,List.any_eq_false]at h4
   rintro⟨z,hz,e⟩;exact h4 z hz (by rw[hkn];exact e)
  have hl:(c.take i).length=i:=by rw[List.length_take];omega
  have r1:=List.findIdx_lt_length_of_exists hpm
  have r2:¬(c.take i).findIdx (fun x=>decide (x.name=k))<(c.take i).length:=fun h=>hkm (List.findIdx_lt_length.1 h)
  have e1:b0l c p=(c.take i).findIdx fun x=>decide (x.name=p):=by
   unfold b0l;conv=>lhs;rw[←List.take_append_drop i c]
   rw[List.findIdx_append,if_pos r1]
  have e2:i≤b0l c k:=by
   unfold b0l;conv=>rhs;rw[←List.take_append_drop i c]
   rw[List.findIdx_append,if_neg r2];omega
  omega
theorem b1s {α:Type} {p q:α→Bool} {x:α}:∀{l:List α},(∀y∈l,p y=true→q y=true)→x∈l→p x=false→q x=true→l.countP p<l.countP q
 | [],_,h,_,_=>by cases h
 |y::l,hi,hx,h1,h2=>by
  have hm:l.countP p≤l.countP q:=List.countP_mono_left fun z hz=>hi z (by simp[hz])
  rcases List.mem_cons.1 hx with rfl|hx
  ·rw[List.countP_cons_of_neg (by simp[h1]),List.countP_cons_of_pos h2];omega
  ·have:=b1s (fun z hz=>hi z (by simp[hz])) hx h1 h2
   rw[List.countP_cons,List.countP_cons]
   by_cases hy:p y=true
   ·rw[if_pos hy,if_pos (hi y (by simp) hy)];omega
   ·rw[if_neg hy];split<;>omega
section
variable {c:List Kind} {s a b:List Part} {p:ByteArray} {q:Part} {D:ByteArray→Bool}
def hiN (c:List Kind) (s:List Part) (q:Part):Nat:=s.countP fun x=>decide (b0l c q.kind<b0l c x.kind)
theorem b9s (h:VS c s) (hq:a0E s p=some q) (hi:q.into≠a0Z):∃q',a0E s q.into=some q'∧hiN c s q'<hiN c s q:=by
 obtain⟨hm,_⟩:=(a1s h.inc).1 hq;obtain⟨x,hx,hn,_,ht⟩:=(h.sits q hm hi).host
 have hr:=c6M h.cat ht
 refine⟨x,(a1s h.inc).2 ⟨hx,hn⟩,b1s (x:=x) (fun y _ hy=>?_) hx ?_ ?_⟩
 ·simp only[decide_eq_true_eq]at hy ⊢;omega
 ·simp
 ·simpa using hr
theorem c8s (hq:a0E s p=some q):hiN c s q<s.length:=by
 have hm:q∈s:=List.mem_of_find?_eq_some hq
 have:=b1s (p:=fun x:Part=>decide (b0l c q.kind<b0l c x.kind)) (q:=fun _=>true) (l:=s) (fun _ _ _=>rfl) hm (by simp) rfl
 unfold hiN
 rwa[List.countP_eq_length.2 (fun _ _=>rfl)]at this
theorem b3t (h:VS c s):∀(n m:Nat) (p:ByteArray) (q:Part),a0E s p=some q→hiN c s q<n→hiN c s q<m→rootGo s n p=rootGo s m p
 |0,_,_,_,_,h1,_=>absurd h1 (Nat.not_lt_zero _)
 |_+1,0,_,_,_,_,h2=>absurd h2 (Nat.not_lt_zero _)
 |n+1,m+1,p,q,hq,h1,h2=>by
  simp only[rootGo,hq]
  by_cases hi:q.into=a0Z
  ·rw[if_pos hi,if_pos hi]
  ·rw[if_neg hi,if_neg hi];obtain⟨q',h3,h4⟩:=b9s h hq hi;exact b3t h n m _ q' h3 (by omega) (by omega)
theorem Spl.rootGo (h:Spl D s a b):∀(n:Nat) (p:ByteArray),D p=true→rootGo s n p=Go.Sx.rootGo a n p
 |0,_,_=>rfl
 |n+1,p,hp=>by
  simp only[Go.Sx.rootGo,h.find hp]
  cases hq:a0E a p with
  |none=>rfl
  |some q=>
   show (if q.into=a0Z then p else _)=(if q.into=a0Z then p else _)
   by_cases hi:q.into=a0Z
   ·rw[if_pos hi,if_pos hi]
   ·rw[if_neg hi,if_neg hi];exact Spl.rootGo h n _ ((h.na q ((a1s h.ia).1 hq).1).2.resolve_left hi)
theorem Spl.place (h:Spl D s a b) (hp:D p=true):a7P p s=a7P p a:=by unfold a7P b1Z;rw[h.find hp]
end
end Go.Sx
set_option linter.all false
namespace Go.Sx
open Go
section
variable {c:List Kind} {l own:List Rep} {R:Nat→Nat} {p q y z:ByteArray} {day:Int} {α β:Type} [DecidableEq α] [DecidableEq β] {lt:α→α→Bool} {lt':β→β→Bool} {f:List Part→α} {g:List Part→β} {s:List Part}
theorem b8m:l.any (fun r=>!a0w r)=false↔∀r∈l,a0w r=true:=by
 rw[List.any_eq_false];exact⟨fun h r hr=>by simpa using h r hr,fun h r hr=>by simp[h r hr]⟩
theorem c1X (h:a6h c l own=0):a1g c=true∧(∀r∈l,a0w r=true)∧own≠[]∧(a2m c own 4096).2=0∧(a2m c own 4096).1=a3d c own∧a3d c own≠[]:=by
 unfold a6h at h
 split at h
 ·cases h
 split at h
 ·cases h
 split at h
 ·cases h
 split at h
 ·rename_i h1 h2 h3 h4;exact absurd h h4
 split at h
 ·cases h
 rename_i h1 h2 h3 h4 h5
 have h4:(a2m c own 4096).2=0:=by simpa using h4
 obtain⟨h6,h7,h8⟩:=b8l (by omega) (by omega) h4;refine⟨by simpa using h1,b8m.1 (by simpa using h2),h3,h4,?_,h7⟩;rw[h8]at h5 ⊢
 rw[List.length_take]at h5
 exact List.take_of_length_le (by omega)
theorem b8B (h:a6h c l own=0):s∈a9d c own p day↔∃t,t∈a3d c own∧Case c own t day s∧(a0E s p).isSome=true:=by
 obtain⟨_,_,_,_,h1,_⟩:=c1X h;unfold a9d d0d;rw[h1,List.mem_filter,List.mem_map]
 constructor
 ·rintro⟨⟨t,ht,rfl⟩,hs⟩;rw[(b1C ht).1]at hs ⊢
  exact⟨t,ht,b9q ht day,hs⟩
 ·rintro⟨t,ht,hC,hs⟩;exact⟨⟨t,ht,by rw[(b1C ht).1];exact hC.at1⟩,hs⟩
theorem b6x (h1:a6h c l own=0) (h2:a9d c own p day≠[]):a7V lt f c l own p day=(a9Z lt ((a9d c own p day).map f),0):=by
 unfold a7V;rw[if_neg (by simp[h1]),if_neg h2]
theorem b7D (h:(a0E s p).isSome=true):a0E s p=some (b1Z s p):=by
 obtain⟨x,hx⟩:=Option.isSome_iff_exists.1 h;rw[b1Z,hx];rfl
theorem c1W (h:a6h c l own=0) (hs:s∈a9d c own p day):VS c s∧a0E s p=some (b1Z s p):=by
 obtain⟨t,ht,hC,hp⟩:=(b8B h).1 hs;exact⟨hC.vs,b7D hp⟩
end
end Go.Sx
set_option linter.all false
namespace Go.Sx
open Go
section
variable {l:List Rep} {R:Nat→Nat} {p:ByteArray} {k:Nat}
theorem b3T (hR:Rts l R) (h:∀i,i<l.length→R i=R 0) (hk:k<l.length) (hn:nm l[k] p):a1V l R p=l:=by
 have e:a2c R l.length (R k)=List.range l.length:=List.filter_eq_self.2 fun i hi=>decide_eq_true (by rw[h i (List.mem_range.1 hi),h k hk])
 unfold a1V;rw[b4x hR hk hn,e,a6y]
end
theorem c7m {R:Nat→Nat} (hR:Rts sxL R):∀i,i<sxL.length→R i=R 0:=by
 have h3:R 3=R 0:=hR.share (l:=sxL) (i:=3) (k:=0) (z:=sA) (by decide) (by decide) (a3D.1 (by decide +kernel)) (a3D.1 (by decide +kernel))
 have h4:R 4=R 0:=hR.share (l:=sxL) (i:=4) (k:=0) (z:=sA) (by decide) (by decide) (a3D.1 (by decide +kernel)) (a3D.1 (by decide +kernel))
 have h1:R 1=R 3:=hR.share (l:=sxL) (i:=1) (k:=3) (z:=sB) (by decide) (by decide) (a3D.1 (by decide +kernel)) (a3D.1 (by decide +kernel))
 have h2:R 2=R 3:=hR.share (l:=sxL) (i:=2) (k:=3) (z:=sW) (by decide) (by decide) (a3D.1 (by decide +kernel)) (a3D.1 (by decide +kernel))
 intro i hi
 match i,hi with
 |0,_=>rfl
 |1,_=>exact h1.trans h3
 |2,_=>exact h2.trans h3
 |3,_=>exact h3
 |4,_=>exact h4
 |n+5,hi=>exact absurd hi (by show ¬n+5<5;omega)
theorem b2r {R:Nat→Nat} (hR:Rts sxL R):a1V sxL R sA=sxL∧a1V sxL R sB=sxL∧a1V sxL R sW=sxL:=
 ⟨b3T hR (c7m hR) (k:=0) (by decide) (a3D.1 (by decide +kernel)),b3T hR (c7m hR) (k:=1) (by decide) (a3D.1 (by decide +kernel)),b3T hR (c7m hR) (k:=2) (by decide) (a3D.1 (by decide +kernel))⟩
theorem d0w:a7V a2h (a7P sA) sxC sxL sxL sA 5=([⟨a0Z,a0Z⟩,⟨sW,a5R⟩],0):=by decide +kernel
theorem d0x:a7V sLt (a3z sW a5R) sxC sxL sxL sW 5=([sA,sB],0):=by decide +kernel
theorem d0y:a7V sLt (a3z sW a5R) sxC sxL sxL sW 6=([a0Z,sA,sB],0):=by decide +kernel
theorem d0z:a7V sLt (a7k sB) sxC sxL sxL sB 6=([sB,sW],0):=by decide +kernel
section
variable {α:Type} [DecidableEq α] {lt:α→α→Bool}
theorem b3C {l:List α} {i:Nat} (hi:i<l.length):a9Z lt (l.take (i+1))=a4B lt l[i] (a9Z lt (l.take i)):=by
 unfold a9Z;rw[←a0i hi,List.foldl_append];rfl
end
theorem b7V (l:List Plc):SrtU a2h (a9Z a2h l):=b6B a6z fun x _ y _ h hn=>a9F h hn
theorem b7W (l:List ByteArray):SrtU sLt (a9Z sLt l):=b6B (lt:=sLt) (fun a b c h1 h2=>a2A h1 h2) fun x _ y _ h hn=>b2k h hn
end Go.Sx
set_option linter.all false
namespace Go.Sx
open Go
def Due.eqB (a b:Due):Bool:=decide (a.part=b.part)&&(decide (a.rule=b.rule)&&(decide (a.day=b.day)&&true))
theorem Due.eqB_eq (a b:Due):Due.eqB a b=decide (a=b):=by
 cases a;cases b;simp[Due.eqB]
structure Fn1 where
 k:FuncId
 cs:List Value
def Fn1.val (f:Fn1):Value:=.func (.func f.k) #[] f.cs.toArray
instance:Enc Fn1 where
 k:=1
 rd _ vs x:=vs=[x.val]
 len h:=by rw[h];rfl
 mono _ h:=h
 one h:=by rw[h];rfl
def LeastIs (l:List Int) (m:Int) (fd:Bool):Prop:=b0z l=(if fd=true then some m else none)∧(fd=false→m=0)
theorem LeastIs.nil:LeastIs [] 0 false:=⟨rfl,fun _=>rfl⟩
theorem b4s (l:List Int) (x:Int):b0z (l++[x])=some (match b0z l with|none=>x|some m=>min m x):=by
 cases l with
 |nil=>rfl
 |cons y l=>simp[b0z,List.foldl_append]
section
variable {l:List Int} {m x:Int} {fd:Bool}
theorem LeastIs.more (h:LeastIs l m true) (hc:¬x<m):LeastIs (l++[x]) m true:=by
 refine⟨?_,fun h=>by cases h⟩;rw[b4s,h.1]
 show some (min m x)=some m
 rw[Int.min_eq_left (by omega)]
theorem LeastIs.val (h:LeastIs l m fd):m=(b0z l).getD 0∧fd=(b0z l).isSome:=by
 cases fd with
 |false=>rw[h.1];exact⟨h.2 rfl,rfl⟩
 |true=>rw[h.1];exact⟨rfl,rfl⟩
end
theorem a7d {κ:Type} [DecidableEq κ] {k x:κ} {v:Value}:∀{kvs:List (κ×Value)},x∈(a5D kvs k v).map Prod.fst↔x=k∨x∈kvs.map Prod.fst
 | []=>by simp[a5D]
 |(k',u)::r=>by
  simp only[a5D]
  split
  ·rename_i h;subst h;simp
  ·simp only[List.map_cons,List.mem_cons,a7d (kvs:=r)]
   constructor
   ·rintro (h|h|h)
    ·exact .inr (.inl h)
    ·exact .inl h
    ·exact .inr (.inr h)
   ·rintro (h|h|h)
    ·exact .inr (.inl h)
    ·exact .inl h
    ·exact .inr (.inr h)
theorem b1P {κ:Type} [DecidableEq κ] {k:κ} {v:Value}:∀{kvs:List (κ×Value)},(kvs.map Prod.fst).Nodup→((a5D kvs k v).map Prod.fst).Nodup
 | [],_=>by simp[a5D]
 |(k',u)::r,h=>by
  obtain⟨h1,h2⟩:=List.nodup_cons.1 h
  simp only[a5D]
  split
  ·exact h
  ·rename_i hne
   refine List.nodup_cons.2 ⟨fun hm=>?_,b1P h2⟩
   rcases a7d.1 hm with e|hm
   ·exact hne e
   ·exact h1 hm
def KeysD (kvs:List (Due×Value)) (L:List Due):Prop:=(kvs.map Prod.fst).Nodup∧∀x,x∈kvs.map Prod.fst↔x∈L
theorem KeysD.nil:KeysD [] []:=⟨List.nodup_nil,fun x=>Iff.rfl⟩
section
variable {kvs:List (Due×Value)} {F:Dut→Option Due} {ds:List Dut} {i:Nat}
theorem KeysD.none (h:KeysD kvs ((ds.take i).filterMap F)) (hi:i<ds.length) (h0:F ds[i] = .none):KeysD kvs ((ds.take (i+1)).filterMap F):=by
 rw[←a0i hi,List.filterMap_append]
 simpa[h0]using h
theorem KeysD.some {x:Due} {v:Value} (h:KeysD kvs ((ds.take i).filterMap F)) (hi:i<ds.length) (h0:F ds[i] = .some x):KeysD (a5D kvs x v) ((ds.take (i+1)).filterMap F):=by
 rw[←a0i hi,List.filterMap_append];refine⟨b1P h.1,fun z=>?_⟩;rw[a7d,h.2,List.mem_append]
 simp[h0,or_comm]
end
section
variable {c:List Kind} {l:List Evt} {p:ByteArray} {day:Int} {ds:List Dut} {d:Dut} {k:ByteArray}
end
section
variable {d:Dut} {l:List Evt} {p:ByteArray} {day:Int}
end
end Go.Sx
set_option linter.all false
namespace Go.Sx
open Go
section
variable {α:Type} [Inhabited α] {w:World} {g t:Nat} {cur:Array Value}
theorem getI! (d:Array α) (j:Nat) (h:j<d.size):d[j]! = d[j]:=getElem!_pos d j h
theorem b2O {enc:α→Value} (hg:w.heap[g]? = some (.cells cur t (0,0))) (d:Array α) (h:cur.toList.take d.size=d.toList.map enc):Sort.Holds enc w g 0 d:=by
 intro j hj
 have hc:cur[j]? = some (enc d[j]!):=by
  have h1:(cur.toList.take d.size)[j]? = (d.toList.map enc)[j]?:=by rw[h]
  rw[List.getElem?_take,if_pos hj,List.getElem?_map,Array.getElem?_toList,Array.getElem?_toList,Array.getElem?_eq_getElem hj]at h1
  rw[h1,getI! d j hj];rfl
 constructor
 ·simp only[World.cell?,hg,Nat.zero_add]
  exact hc
 ·simp[World.frozen?,hg]
theorem a8l {enc:α→Value} (hg:w.heap[g]? = some (.cells cur t (0,0))) (d:Array α) (hd:d.size≤cur.size) (n:Nat) (os:Array Obj) :
  ∃cur',(Sort.grow (Sort.putRow enc (Sort.ahead w n) g 0 d) os).heap[g]? = some (.cells cur' t (0,0))∧cur'.size=cur.size∧cur'.toList.take d.size=d.toList.map enc ∧
   w.heap.size≤(Sort.grow (Sort.putRow enc (Sort.ahead w n) g 0 d) os).heap.size∧∀k,k<w.heap.size→k≠g→(Sort.grow (Sort.putRow enc (Sort.ahead w n) g 0 d) os).heap[k]? = w.heap[k]?:=by
 have hlt:g<w.heap.size:=(Array.getElem?_eq_some_iff.1 hg).1
 have hh:(Sort.grow (Sort.putRow enc (Sort.ahead w n) g 0 d) os).heap=w.heap.modify g (Sort.onCells (Sort.putCells enc 0 d))++os:=rfl
 refine⟨Sort.putCells enc 0 d cur,?_,by simp[Sort.putCells],?_,by rw[hh];simp,fun k hk hne=>?_⟩
 ·rw[hh,Array.getElem?_append_left (by simpa using hlt),Array.getElem?_modify,if_pos rfl,hg];rfl
 ·refine List.ext_getElem? fun j=>?_
  rw[List.getElem?_take,List.getElem?_map,Array.getElem?_toList,Array.getElem?_toList]
  by_cases hj:j<d.size
  ·rw[if_pos hj,Array.getElem?_eq_getElem hj]
   simp only[Sort.putCells,Array.getElem?_mapIdx]
   rw[Array.getElem?_eq_getElem (by omega:j<cur.size)]
   simp only[Option.map_some]
   rw[if_pos ⟨Nat.zero_le _,by omega⟩,Nat.sub_zero,getI! d j hj]
  ·rw[if_neg hj,Array.getElem?_eq_none (by omega)];rfl
 ·rw[hh,Array.getElem?_append_left (by simpa using hk),Array.getElem?_modify,if_neg (fun e=>hne e.symm)]
end
def SrtP (l m:List ByteArray):Prop:=m.Perm l∧m.Pairwise fun a b=>sLt b a=false
section
variable {P:Program} {f:FuncId} {I:IMap}
end
end Go.Sx
set_option linter.all false
namespace Go.Sx
open Go
def I00:IMap:=fun _=>none
theorem c8H (W:World):Mem ⟨[],I00,W⟩ I00 [] W:=
 ⟨Upd.refl _ _,fun b o hb=>(by cases hb),ILe.refl _,fun b hb=>absurd rfl hb,fun r hr=>(by cases hr),fun r hr=>(by cases hr),List.nodup_nil⟩
theorem b3J {W W':World} (h:Upd [] W W'):∃q os,W'=Sort.grow (W.drewN q) os:=by
 obtain⟨h1,⟨h2,h3⟩,h4,h5,h6⟩:=h;refine⟨W'.drawn-W.drawn,W'.heap.extract W.heap.size W'.heap.size,?_⟩
 have hh:W'.heap=W.heap++W'.heap.extract W.heap.size W'.heap.size:=by
  refine Array.ext_getElem? fun i=>?_
  by_cases hi:i<W.heap.size
  ·rw[Array.getElem?_append_left hi];exact h6 i hi (by simp)
  ·rw[Array.getElem?_append_right (by omega),Array.getElem?_extract]
   by_cases hj:i<W'.heap.size
   ·rw[if_pos (by omega),show W.heap.size+(i-W.heap.size)=i by omega]
   ·rw[if_neg (by omega),Array.getElem?_eq_none (by omega)]
 have hd:W'.drawn=W.drawn+(W'.drawn-W.drawn):=by omega
 cases W with
 |mk hp tp dr os ot=>
  cases W' with
  |mk hp' tp' dr' os' ot'=>
   simp only at h1 h2 h4 hh hd
   subst h1 h2 h4;unfold Sort.grow World.drewN
   simp only
   rw[←hh,←hd]
section
variable {P:Program} {α:Type} [Inhabited α] {cells:α→List Value} {k:Nat} {cf:α→α→Int}
theorem b6V {gf:FuncId} (eg:∀args w,(callFunc gf args).run P w = .ok (.enter gf args) w) (hc:∀x y,FnV P gf #[.agg (cells x).toArray,.agg (cells y).toArray] I00 (.int .i64 (cf x y))) (blk off size:Nat) (w:World):Proofs.CmpLays P gf #[] cells k cf blk off size w:=by
 intro m os dk _ x y
 have h:=(hc x y).go _ (c8H (Proofs.sortWorldK cells k w blk off m dk os))
 unfold After at h
 rw[eg]at h
 refine Calls.mono h fun e w' hp=>?_
 obtain⟨v,I',H',rfl,hm,rfl,rfl,rfl⟩:=hp;obtain⟨q,os',h2⟩:=b3J hm.upd;exact⟨rfl,q,os',h2⟩
theorem a7C (hk:∀x,(cells x).length=k):∀l:List α,(Sort.flatK cells k l.toArray).toList=l.flatMap cells
 | []=>by simp[Sort.flatK]
 |x::l=>by
  have ih:=a7C hk l
  simp only[Sort.flatK,Array.toList_map,Array.toList_range,List.size_toArray]at ih ⊢
  rw[List.length_cons,Nat.add_mul,Nat.one_mul,Nat.add_comm,List.range_add,List.map_append,List.map_map,List.flatMap_cons]
  congr 1
  ·refine List.ext_getElem? fun t=>?_
   rw[List.getElem?_map]
   by_cases ht:t<k
   ·rw[List.getElem?_range ht,Option.map_some,Nat.div_eq_of_lt ht,Nat.mod_eq_of_lt ht]
    have hl:t<(cells x).length:=by rw[hk];exact ht
    rw[List.getElem?_eq_getElem hl]
    simp[hl]
   ·rw[List.getElem?_eq_none (by simpa using ht),List.getElem?_eq_none (by rw[hk];omega)];rfl
  ·rw[←ih];refine List.map_congr_left fun t ht=>?_
   have h0:0<k:=by
    rcases Nat.eq_zero_or_pos k with h|h
    ·subst h;simp at ht
    ·exact h
   simp only[Function.comp]
   rw[Nat.add_div_left _ h0,Nat.add_mod_left]
   have e:(x::l).toArray[t / k+1]! = l.toArray[t / k]!:=by simp
   rw[e]
def b6N (cf:α→α→Int) (l m:List α):Prop:=m.Perm l∧m.Pairwise fun a b=>¬cf b a<0
theorem c0U {l:List α} {d':Array α} (hp:Sort.PermIn 0 l.toArray.size l.toArray d') (hs:Sort.SortedIn (Proofs.ltOf cf) 0 l.toArray.size d'):b6N cf l d'.toList:=by
 obtain⟨h1,_,h3⟩:=hp
 have hsz:d'.size=l.length:=by simpa using h1
 constructor
 ·simpa[List.take_of_length_le (show d'.toList.length≤l.length by rw[Array.length_toList,hsz];exact Nat.le_refl _)]using h3
 ·rw[List.pairwise_iff_getElem];intro i j hi hj hij
  have hj':j<d'.size:=by simpa using hj
  have h:=hs i j (Nat.zero_le _) hij (by simp only[List.size_toArray];omega)
  rw[getI! d' i (by omega),getI! d' j hj']at h
  simp only[Proofs.ltOf,decide_eq_false_iff_not]at h
  simpa using h
theorem c3N {f gf:FuncId} {I:IMap} (he:∀args w,(callFunc f args).run P w = .ok (.enter f args) w) (eg:∀args w,(callFunc gf args).run P w = .ok (.enter gf args) w)
  (hk:∀(blk off cap:Nat) (d:Array α) (w:World),Proofs.CmpLays P gf #[] cells k cf blk off d.size w→Sort.HoldsK cells k w blk off d→blk<w.heap.size→d.size<4611686018427387904 →
   Calls P f #[.slice (some ⟨blk,off,none⟩) d.size cap,.func (.func gf) #[] #[]] w fun e w'=>e = .returned (.tuple #[])∧∃d' n os,Sort.PermIn 0 d.size d d'∧Sort.SortedIn (Proofs.ltOf cf) 0 d.size d'∧w'=Proofs.sortWorldK cells k w blk off n d' os)
  (hnil:∀w,Calls P f #[.slice none 0 0,.func (.func gf) #[] #[]] w fun e w'=>e = .returned (.tuple #[])∧w'=w)
  (hc:∀x y,FnV P gf #[.agg (cells x).toArray,.agg (cells y).toArray] I00 (.int .i64 (cf x y))) (hlen:∀x,(cells x).length=k) {v:Value} {t:Nat} {l:List α} (hl:l.length≤1000000) :
  FnX P f #[v,.func (.func gf) #[] #[]] I [.row v t k l.length (l.flatMap cells)] (fun u r=>u = .tuple #[]∧∃m,b6N cf l m∧r = .row v t k l.length (m.flatMap cells)):=by
 refine⟨fun w m=>?_⟩
 have hrow:=m.holds _ (List.mem_cons_self ..)
 unfold After;rw[he];obtain⟨hx,h|⟨g,cap,cur,hv,hg,hn,hcm,hs,ht⟩⟩:=hrow
 ·obtain⟨rfl,hl0⟩:=h;obtain rfl:l=[]:=List.eq_nil_of_length_eq_zero hl0;refine Calls.mono (hnil w) fun e w' h=>?_
  obtain⟨rfl,rfl⟩:=h;exact⟨_,I,_,rfl,m,rfl,_,rfl,rfl,[],⟨.refl _,.nil⟩,rfl⟩
 subst hv
 have hfs:∀q:List α,q.length=l.length→(Sort.flatK cells k q.toArray).size=l.length * k:=fun q hq=>by simp[hq]
 have hH:Sort.HoldsK cells k w g 0 l.toArray:=by
  refine b2O (enc:=id) hg _ ?_;rw[hfs l rfl,ht,List.map_id,a7C hlen]
 have hcall:=hk g 0 cap l.toArray w (b6V eg hc g 0 _ w) hH (Array.getElem?_eq_some_iff.1 hg).1 (by simp only[List.size_toArray];omega)
 refine Calls.mono hcall fun e w' h=>?_
 obtain⟨rfl,d',n,os,hp,hso,rfl⟩:=h
 have hsr:=c0U hp hso
 have hdl:d'.toList.length=l.length:=hsr.1.length_eq
 have hfd:(Sort.flatK cells k d').size=l.length * k:=by have:=hfs d'.toList hdl;simpa using this
 obtain⟨cur',h1,h2,h3,h4,h5⟩:=a8l (enc:=id) hg (Sort.flatK cells k d') (by rw[hfd,hs];exact Nat.mul_le_mul_right k hn) n os
 have hfl:(Sort.flatK cells k d').toList=d'.toList.flatMap cells:=a7C hlen d'.toList
 refine⟨.tuple #[],I,[.row (.slice (some ⟨g,0,none⟩) l.length cap) t k l.length (d'.toList.flatMap cells)],rfl,?_,rfl,_,rfl,rfl,_,hsr,rfl⟩;refine m.step rfl ⟨rfl,Nat.le_add_right w.drawn n⟩ rfl h4 (fun q hq hne=>h5 q hq fun e=>hne (by subst e;rfl)) ?_ (fun g' hg'=>.inl hg');rw[hfd,List.map_id,hfl]at h3
 refine⟨?_,.inr ⟨g,cap,cur',rfl,h1,hn,hcm,by rw[h2,hs],h3⟩⟩;rw[←hfl,Array.length_toList,hfd]
end
end Go.Sx
set_option linter.all false
namespace Go.Sx
open Go
def orI:List Int→Int
 | []=>0
 |x::l=>if x≠0 then x else orI l
theorem c6y {l:List Int} {i:Nat} (h:i<l.length) (h0:l[i]=0):orI (l.drop i)=orI (l.drop (i+1)):=by
 rw[List.drop_eq_getElem_cons h,orI,if_neg (by rw[h0];decide)]
theorem c8O {l:List Int} {i:Nat} (h:i<l.length) (h0:¬l[i]=0):l[i]=orI (l.drop i):=by
 rw[List.drop_eq_getElem_cons h,orI,if_pos h0]
instance:Inhabited Due:=⟨⟨a0Z,a0Z,0⟩⟩
theorem KeysD.len {kvs:List (Due×Value)} {L:List Due} (h:KeysD kvs L):kvs.length≤L.length:=by
 have:=h.1.length_le_of_subset (l₂:=L) fun x hx=>(h.2 x).1 hx
 rwa[List.length_map]at this
section
variable {ds:List Dut} {c:List Kind} {l:List Evt} {p:ByteArray} {day:Int} {kvs done:List (Due×Value)}
end
def KeysN (kvs:List (ByteArray×Value)) (L:List ByteArray):Prop:=(kvs.map Prod.fst).Nodup∧∀x,x∈kvs.map Prod.fst↔x∈L
theorem KeysN.nil:KeysN [] []:=⟨List.nodup_nil,fun x=>Iff.rfl⟩
def b1M (day:Int) (done:List (Due×Value)):List ByteArray:=((done.map Prod.fst).filter fun x=>decide (x.day<day)).map Due.rule
theorem KeysN.yes {day:Int} {done:List (Due×Value)} {e:Due×Value} {ns:List (ByteArray×Value)} {v:Value} (h:KeysN ns (b1M day done)) (hd:e.1.day<day):KeysN (a5D ns e.1.rule v) (b1M day (done++[e])):=
 ⟨b1P h.1,fun x=>by rw[a7d,h.2];simp[b1M,hd,or_comm]⟩
theorem KeysN.no {day:Int} {done:List (Due×Value)} {e:Due×Value} {ns:List (ByteArray×Value)} (h:KeysN ns (b1M day done)) (hd:¬e.1.day<day):KeysN ns (b1M day (done++[e])):=
 ⟨h.1,fun x=>by rw[h.2];simp[b1M,hd]⟩
theorem KeysN.len {day:Int} {done:List (Due×Value)} {ns:List (ByteArray×Value)} (h:KeysN ns (b1M day done)):ns.length≤done.length:=by
 have h1:=h.1.length_le_of_subset (l₂:=b1M day done) fun x hx=>(h.2 x).1 hx
 rw[List.length_map]at h1
 refine Nat.le_trans h1 ?_;unfold b1M;rw[List.length_map];exact Nat.le_trans (List.length_filter_le _ _) (by rw[List.length_map];exact Nat.le_refl _)
section
variable {ds:List Dut} {c:List Kind} {l:List Evt} {p:ByteArray} {day:Int} {kvs done:List (Due×Value)} {ns:List (ByteArray×Value)}
end
theorem SrtP.perm {l l' m:List ByteArray} (h:SrtP l m) (hp:l.Perm l'):SrtP l' m:=⟨h.1.trans hp,h.2⟩
section
variable {P:Program} {f:FuncId} {args:Array Value} {v:Value}
end
end Go.Sx
set_option linter.all false
namespace Go.Sx
open Go
section
variable {d:Dut} {l:List Evt} {p:ByteArray} {day b:Int}
end
section
variable {α:Type} [DecidableEq α] {lt:α→α→Bool} {x:α}
theorem b5D:∀(l:List α),(a4B lt x l).length≤l.length+1
 | []=>by simp[a4B]
 |y::l=>by
  simp only[a4B]
  split
  ·have:=b5D l;simp;omega
  ·split
   ·simp
   ·simp
theorem c3T (l:List α):(a9Z lt l).length≤l.length:=by
 have key:∀(l a:List α),(l.foldl (fun a x=>a4B lt x a) a).length≤a.length+l.length:=by
  intro l
  induction l with
  |nil=>intro a;simp
  |cons y l ih=>intro a;have h1:=ih (a4B lt y a);have h2:=b5D (lt:=lt) (x:=y) a;simp only[List.foldl_cons,List.length_cons];omega
 have h:=key l []
 rw[List.length_nil,Nat.zero_add]at h
 exact h
end
section
variable {d:Dut} {ds:List Dut} {c:List Kind} {l:List Evt} {p k:ByteArray} {day n:Int} {i:Nat}
end
end Go.Sx
set_option linter.all false
namespace Go.Sx
open Go
section
variable {κ:Type} [DecidableEq κ]
def KeysG (kvs:List (κ×Value)) (L:List κ):Prop:=(kvs.map Prod.fst).Nodup∧∀x,x∈kvs.map Prod.fst↔x∈L
theorem KeysG.nil:KeysG ([]:List (κ×Value)) []:=⟨List.nodup_nil,fun x=>Iff.rfl⟩
theorem KeysG.put {kvs:List (κ×Value)} {L:List κ} {x:κ} {v:Value} (h:KeysG kvs L):KeysG (a5D kvs x v) (L++[x]):=
 ⟨b1P h.1,fun z=>by rw[a7d,h.2,List.mem_append,List.mem_singleton,or_comm]⟩
theorem KeysG.one {kvs:List (κ×Value)} {L m:List κ} {v:Value} (h:KeysG kvs L) (h1:m.length=1):KeysG (a5D kvs (m[0]'(by omega)) v) (L++m):=by
 match m,h1 with
 | [x],_=>exact h.put
theorem KeysG.zero {kvs:List (κ×Value)} {L m:List κ} (h:KeysG kvs L) (h0:¬((m.length:Nat):Int)=1) (hle:m.length≤1):KeysG kvs (L++m):=by
 match m with
 | []=>rw[List.append_nil];exact h
 | [x]=>exact absurd rfl h0
end
section
variable {ds:List Dut} {c:List Kind} {l:List Evt} {p:ByteArray} {day:Int} {i:Nat}
end
end Go.Sx
set_option linter.all false
namespace Go.Sx
open Go
section
variable {P:Program} {cf:ByteArray→ByteArray→Int}
theorem b4b {gf:FuncId} (eg:∀args w,(callFunc gf args).run P w = .ok (.enter gf args) w) (hc:∀x y,FnV P gf #[.string x,.string y] I00 (.int .i64 (cf x y))) (blk off size:Nat) (w:World):Proofs.CmpLays1 P gf #[] Value.string cf blk off size w:=by
 intro m os dk _ x y
 have h:=(hc x y).go _ (c8H (Proofs.sortWorld Value.string w blk off m dk os))
 unfold After at h
 rw[eg]at h
 refine Calls.mono h fun e w' hp=>?_
 obtain⟨v,I',H',rfl,hm,rfl,rfl,rfl⟩:=hp;obtain⟨q,os',h2⟩:=b3J hm.upd;exact⟨rfl,q,os',h2⟩
theorem c0S {f gf:FuncId} {I:IMap} (he:∀args w,(callFunc f args).run P w = .ok (.enter f args) w) (eg:∀args w,(callFunc gf args).run P w = .ok (.enter gf args) w)
  (hk:∀(blk off cap:Nat) (d:Array ByteArray) (w:World),Proofs.CmpLays1 P gf #[] Value.string cf blk off d.size w→Sort.Holds Value.string w blk off d→blk<w.heap.size→d.size<4611686018427387904 →
   Calls P f #[.slice (some ⟨blk,off,none⟩) d.size cap,.func (.func gf) #[] #[]] w fun e w'=>e = .returned (.tuple #[])∧∃d' n os,Sort.PermIn 0 d.size d d'∧Sort.SortedIn (Proofs.ltOf cf) 0 d.size d'∧w'=Proofs.sortWorld Value.string w blk off n d' os)
  (hnil:∀w,Calls P f #[.slice none 0 0,.func (.func gf) #[] #[]] w fun e w'=>e = .returned (.tuple #[])∧w'=w)
  (hc:∀x y,FnV P gf #[.string x,.string y] I00 (.int .i64 (cf x y))) {v:Value} {t:Nat} {l:List ByteArray} (hl:l.length≤1000000) :
  FnX P f #[v,.func (.func gf) #[] #[]] I [.row v t 1 l.length (l.map Value.string)] (fun u r=>u = .tuple #[]∧∃m,b6N cf l m∧r = .row v t 1 l.length (m.map Value.string)):=by
 refine⟨fun w m=>?_⟩
 have hrow:=m.holds _ (List.mem_cons_self ..)
 unfold After;rw[he];obtain⟨hx,h|⟨g,cap,cur,hv,hg,hn,hcm,hs,ht⟩⟩:=hrow
 ·obtain⟨rfl,hl0⟩:=h;obtain rfl:l=[]:=List.eq_nil_of_length_eq_zero hl0;refine Calls.mono (hnil w) fun e w' h=>?_
  obtain⟨rfl,rfl⟩:=h;exact⟨_,I,_,rfl,m,rfl,_,rfl,rfl,[],⟨.refl _,.nil⟩,rfl⟩
 subst hv;rw[Nat.mul_one]at ht
 have hH:Sort.Holds Value.string w g 0 l.toArray:=b2O hg _ ht
 have hcall:=hk g 0 cap l.toArray w (b4b eg hc g 0 _ w) hH (Array.getElem?_eq_some_iff.1 hg).1 (by simp only[List.size_toArray];omega)
 refine Calls.mono hcall fun e w' h=>?_
 obtain⟨rfl,d',n,os,hp,hso,rfl⟩:=h
 have hsr:=c0U hp hso
 have hdl:d'.toList.length=l.length:=hsr.1.length_eq
 have hds:d'.size=l.length:=by simpa using hdl
 obtain⟨cur',h1,h2,h3,h4,h5⟩:=a8l (enc:=Value.string) hg d' (by omega) n os;refine⟨.tuple #[],I,[.row (.slice (some ⟨g,0,none⟩) l.length cap) t 1 l.length (d'.toList.map Value.string)],rfl,?_,rfl,_,rfl,rfl,_,hsr,rfl⟩;refine m.step rfl ⟨rfl,Nat.le_add_right w.drawn n⟩ rfl h4 (fun q hq hne=>h5 q hq fun e=>hne (by subst e;rfl)) ?_ (fun g' hg'=>.inl hg');rw[hds]at h3
 refine⟨by simp[hds],.inr ⟨g,cap,cur',rfl,h1,hn,hcm,by rw[h2,hs],by rw[Nat.mul_one];exact h3⟩⟩
end
end Go.Sx
set_option linter.all false
namespace Go.Sx
open Go
def Plc.eqB (a b:Plc):Bool:=decide (a.into=b.into)&&(decide (a.slot=b.slot)&&true)
theorem Plc.eqB_eq (a b:Plc):Plc.eqB a b=decide (a=b):=by
 cases a;cases b;simp[Plc.eqB]
instance:Inhabited Plc:=⟨⟨a0Z,a0Z⟩⟩
def a9i (x:Plc):Value:=.agg x.cells.toArray
theorem c8K (a b:List Nat):nI (a++b)=nI a++nI b:=by simp[nI]
theorem b3i {l:List Rep} {C:List Nat} {i:Nat} (hi:i<C.length) (h:C[i]<l.length):a4O l (C.take (i+1))=a4O l (C.take i)++[l[C[i]]]:=by
 rw[←a0i hi,a8i,a4x h];rfl
def a8p (a b:Plc):Int:=orI [a6m a.into b.into,a6m a.slot b.slot]
theorem b5l {a b:Plc}:a8p a b<0↔a2h a b=true:=by
 have h1:a8p a b=if a6m a.into b.into=0 then (if a6m a.slot b.slot=0 then 0 else a6m a.slot b.slot) else a6m a.into b.into:=by
  unfold a8p orI orI orI
  simp only[ne_eq,ite_not]
 rw[h1];unfold a2h;rw[Bool.or_eq_true,Bool.and_eq_true,decide_eq_true_eq,←a4Q,←a4Q]
 by_cases h:a6m a.into b.into=0
 ·rw[if_pos h]
  have e:=a6O.1 h
  by_cases h2:a6m a.slot b.slot=0
  ·rw[if_pos h2];omega
  ·rw[if_neg h2]
   constructor
   ·exact fun h3=>.inr ⟨e,h3⟩
   ·rintro (h3|h3)
    ·omega
    ·exact h3.2
 ·rw[if_neg h]
  have e:¬a.into=b.into:=fun e=>h (a6O.2 e)
  constructor
  ·exact .inl
  ·rintro (h3|h3)
   ·exact h3
   ·exact absurd h3.1 e
theorem c2L:Proofs.ltOf a8p=a2h:=by
 funext a b
 rw[Bool.eq_iff_iff]
 simp only[Proofs.ltOf,decide_eq_true_eq]
 exact b5l
theorem c2M:Proofs.ltOf a6m=sLt:=by
 funext a b
 rw[Bool.eq_iff_iff]
 simp only[Proofs.ltOf,decide_eq_true_eq]
 exact a4Q
theorem c5b {α:Type} {lt:α→α→Bool} (hi:∀a,lt a a=false) (ht:∀a b c,lt a b=true→lt b c=true→lt a c=true) (h3:∀x y,lt y x=false→y≠x→lt x y=true):Sort.SWO lt:=by
 refine⟨hi,ht,fun x y z h1 h2=>?_⟩
 cases h4:lt x z with
 |false=>rfl
 |true=>
  by_cases e:x=y
  ·subst e;rw[h4]at h2;cases h2
  ·have h5:=ht _ _ _ (h3 y x h1 e) h4
   rw[h5]at h2;cases h2
theorem c6D:Sort.SWO (Proofs.ltOf a8p):=by rw[c2L];exact c5b a8j a6z fun x y h hn=>a9F h hn
theorem c7i:Sort.SWO (Proofs.ltOf a6m):=by rw[c2M];exact c5b a1r (fun a b c h1 h2=>a2A h1 h2) fun x y h hn=>b2k h hn
theorem c3R {l m:List Plc} (h:b6N a8p l m) (hn:l.Nodup):SrtU a2h m:=by
 have h1:m.Nodup:=(h.1.nodup_iff).2 hn
 have h2:=List.nodup_iff_pairwise_ne.1 h1
 refine List.Pairwise.imp₂ (fun a b hab hne=>?_) h.2 h2
 cases h3:a2h b a with
 |true=>exact absurd (b5l.2 h3) hab
 |false=>exact a9F h3 fun e=>hne e.symm
theorem c3S {l m:List ByteArray} (h:b6N a6m l m) (hn:l.Nodup):SrtU sLt m:=by
 have h1:m.Nodup:=(h.1.nodup_iff).2 hn
 have h2:=List.nodup_iff_pairwise_ne.1 h1
 refine List.Pairwise.imp₂ (fun a b hab hne=>?_) h.2 h2
 cases h3:sLt b a with
 |true=>exact absurd (a4Q.2 h3) hab
 |false=>exact b2k h3 fun e=>hne e.symm
theorem c0Q {kvs:List (Plc×Value)} {L m:List Plc} (hK:KeysG kvs L) (h:b6N a8p (kvs.map Prod.fst) m):m=a9Z a2h L:=
 SrtU.uniq a8j a6z (c3R h hK.1) (b7V L) fun z=>by rw[h.1.mem_iff,hK.2,b6A]
theorem c0R {kvs:List (ByteArray×Value)} {L m:List ByteArray} (hK:KeysG kvs L) (h:b6N a6m (kvs.map Prod.fst) m):m=a9Z sLt L:=
 SrtU.uniq a1r (fun a b c h1 h2=>a2A h1 h2) (c3S h hK.1) (b7W L) fun z=>by rw[h.1.mem_iff,hK.2,b6A]
theorem b3B {α:Type} {cf:α→α→Int} {l l' m:List α} (h:b6N cf l m) (hp:l.Perm l'):b6N cf l' m:=⟨h.1.trans hp,h.2⟩
theorem KeysG.len {κ:Type} [DecidableEq κ] {kvs:List (κ×Value)} {L:List κ} (h:KeysG kvs L):kvs.length≤L.length:=by
 have h1:(kvs.map Prod.fst).length≤L.length:=List.Nodup.length_le_of_subset h.1 fun x hx=>(h.2 x).1 hx
 simpa using h1
theorem KeysG.zero_iff {κ:Type} [DecidableEq κ] {kvs:List (κ×Value)} {L:List κ} (h:KeysG kvs L):kvs.length=0↔L=[]:=by
 constructor
 ·intro h0;rw[List.eq_nil_iff_forall_not_mem];intro x hx
  have:=(h.2 x).2 hx
  rw[List.eq_nil_of_length_eq_zero h0]at this;cases this
 ·rintro rfl
  have:=h.len
  simpa using this
section
variable {κ:Type} {pre:List κ} {todo a b kvs:List (κ×Value)} {e:κ×Value}
theorem b0y (hP:(pre++todo.map Prod.fst).Perm (kvs.map Prod.fst)) (h:todo=a++e::b):((pre++[e.1])++(a++b).map Prod.fst).Perm (kvs.map Prod.fst):=by
 subst h;refine List.Perm.trans ?_ hP;rw[List.append_assoc];refine List.Perm.append_left _ ?_
 simp only[List.map_append,List.map_cons,List.singleton_append]
 exact List.perm_middle.symm
theorem b5J (hP:(pre++todo.map Prod.fst).Perm (kvs.map Prod.fst)) (h:todo=a++e::b):pre.length<kvs.length:=by
 subst h
 have:=hP.length_eq
 simp at this
 omega
end
theorem c3g {I:IMap} (l:List Plc):Flat I (l.flatMap Plc.cells) l:=by
 induction l with
 |nil=>exact .nil
 |cons x l ih=>rw[List.flatMap_cons];exact .cons rfl ih
theorem c0Z {I:IMap} (l:List ByteArray):Flat I (l.map Value.string) l:=by
 induction l with
 |nil=>exact .nil
 |cons x l ih=>exact .cons rfl ih
def b1p (c:List Kind) (own:List Rep) (day:Int) (t:List Int):List Part:=(a6K c (a1L own t).1 day).1
def a7u (c:List Kind) (own:List Rep) (p:ByteArray) (day:Int) (all:List (List Int)):List (List Part):=(all.map (b1p c own day)).filter fun s=>(a0E s p).isSome
theorem b2I {c:List Kind} {own:List Rep} {p:ByteArray} {day:Int}:a7u c own p day (a2m c own 4096).1=a9d c own p day:=rfl
section
variable {c:List Kind} {own:List Rep} {p:ByteArray} {day:Int} {all:List (List Int)} {i:Nat}
theorem a9e (hi:i<all.length) (h:(a0E (b1p c own day all[i]) p).isSome=true):a7u c own p day (all.take (i+1))=a7u c own p day (all.take i)++[b1p c own day all[i]]:=by
 unfold a7u;rw[←a0i hi,List.map_append,List.filter_append]
 simp[h]
theorem b1o (hi:i<all.length) (h:(a0E (b1p c own day all[i]) p).isSome=false):a7u c own p day (all.take (i+1))=a7u c own p day (all.take i):=by
 unfold a7u;rw[←a0i hi,List.map_append,List.filter_append]
 simp[h]
theorem b8A (hi:i≤all.length):(a7u c own p day (all.take i)).length≤i:=by
 unfold a7u;refine Nat.le_trans (List.length_filter_le _ _) ?_;rw[List.length_map,List.length_take];omega
end
theorem c4B {c:List Kind} {l own:List Rep} (h:a1g c=false):a6h c l own=1:=by unfold a6h;rw[if_pos h]
theorem c4C {c:List Kind} {l own:List Rep} (h:a1g c=true) (h2:l.any (fun r=>!a0w r)=true):a6h c l own=1:=by unfold a6h;rw[if_neg (by simp[h]),if_pos h2]
theorem c4D {c:List Kind} {l own:List Rep} (h:a1g c=true) (h2:l.any (fun r=>!a0w r)=false) (h3:own=[]):a6h c l own=2:=by unfold a6h;rw[if_neg (by simp[h]),if_neg (by simp[h2]),if_pos h3]
theorem c4E {c:List Kind} {l own:List Rep} (h:a1g c=true) (h2:l.any (fun r=>!a0w r)=false) (h3:own≠[]):a6h c l own=if (a2m c own 4096).2≠0 then (a2m c own 4096).2 else if (a2m c own 4096).1.length=4096 then 7 else 0:=by unfold a6h;rw[if_neg (by simp[h]),if_neg (by simp[h2]),if_neg h3]
theorem b1n {c:List Kind} {own:List Rep} {p:ByteArray} {day:Int}:(a9d c own p day).length≤4096:=by
 have h:=(b0p (c:=c) (l:=own) (a:=4096) (b:=4096) (by omega) (by omega) (Int.le_refl _)).2.2.1
 unfold a9d d0d;refine Nat.le_trans (List.length_filter_le _ _) ?_;rw[List.length_map];omega
theorem b6w {α:Type} [DecidableEq α] {lt:α→α→Bool} {f:List Part→α} {c:List Kind} {l own:List Rep} {p:ByteArray} {day:Int} (h:a6h c l own≠0):a7V lt f c l own p day=([],a6h c l own):=if_pos h
theorem b2l {α:Type} [DecidableEq α] {lt:α→α→Bool} {f:List Part→α} {c:List Kind} {l own:List Rep} {p:ByteArray} {day:Int} (h:a6h c l own=0) (h2:a9d c own p day=[]):a7V lt f c l own p day=([],2):=by
 unfold a7V;rw[if_neg (by simp[h]),if_pos h2]
section
variable {s:List Part} {q:ByteArray} {i:Nat} {y z:ByteArray}
theorem c0G (hi:i<s.length) (h:(a0E s q).isSome=false):rootGo s (s.length-i) q=a0Z:=by
 obtain⟨n,hn⟩:∃n,s.length-i=n+1:=⟨s.length-i-1,by omega⟩;rw[hn];unfold rootGo
 cases hf:a0E s q with
 |none=>rfl
 |some x=>rw[hf]at h;cases h
theorem c0E (hi:i<s.length) (h:(a0E s q).isSome=true) (h2:((a0E s q).getD zPart).into=a0Z):rootGo s (s.length-i) q=q:=by
 obtain⟨n,hn⟩:∃n,s.length-i=n+1:=⟨s.length-i-1,by omega⟩;rw[hn];unfold rootGo
 cases hf:a0E s q with
 |none=>rw[hf]at h;cases h
 |some x=>rw[hf]at h2;exact if_pos h2
theorem c0F (hi:i<s.length) (h:(a0E s q).isSome=true) (h2:¬((a0E s q).getD zPart).into=a0Z):rootGo s (s.length-i) q=rootGo s (s.length-(i+1)) ((a0E s q).getD zPart).into:=by
 obtain⟨n,hn⟩:∃n,s.length-i=n+1:=⟨s.length-i-1,by omega⟩;rw[hn,show s.length-(i+1)=n by omega]
 conv=>lhs;unfold rootGo
 cases hf:a0E s q with
 |none=>rw[hf]at h;cases h
 |some x=>rw[hf]at h2;exact if_neg h2
theorem c6v (hi:i<s.length) (hn:a3z y z s=a3z y z (s.drop i)) (h:(⟨s[i].into,s[i].slot⟩:Plc)=⟨y,z⟩):a3z y z s=s[i].name:=by
 rw[hn,List.drop_eq_getElem_cons hi];unfold a3z;rw[List.find?_cons_of_pos (by simp only[Plc.mk.injEq]at h;simp[a7m,h.1,h.2])];rfl
theorem c2W (hi:i<s.length) (hn:a3z y z s=a3z y z (s.drop i)) (h:¬(⟨s[i].into,s[i].slot⟩:Plc)=⟨y,z⟩):a3z y z s=a3z y z (s.drop (i+1)):=by
 rw[hn,List.drop_eq_getElem_cons hi];unfold a3z;rw[List.find?_cons_of_neg (by simp only[Plc.mk.injEq]at h;simpa[a7m]using h)]
theorem c6u (hi:¬i<s.length) (hn:a3z y z s=a3z y z (s.drop i)):a3z y z s=a0Z:=by
 rw[hn,List.drop_eq_nil_of_le (by omega)];rfl
end
end Go.Sx
namespace Go.Proofs
open Go.Shelf
def Tryz.layQ_ren:Go.Shelf.Ren:=⟨fun|6=>177|15=>226|14=>235|28=>280|29=>281|20=>284|21=>285|22=>286|23=>287|24=>288|25=>289|26=>290|27=>291|46=>327|47=>323|48=>324|49=>328|50=>329|57=>345|n=>n,fun|22=>29|24=>55|25=>106|3=>3|39=>293|0=>0|53=>343|55=>345|4=>4|46=>336|45=>335|50=>124|5=>5|9=>9|66=>371|70=>375|76=>384|77=>385|n=>n,fun|n=>n⟩
theorem Tryz.layQ:Go.Proofs.SlLaysF0.n6 Tryz.prog Tryz.layQ_ren:={
 mixed:=by kernel_rfl
 f6:=⟨Tryz.f177.name,by decide,Tryz.func177.trans (congrArg some (by kernel_rfl))⟩
 f14:=⟨Tryz.f235.name,by decide,Tryz.func235.trans (congrArg some (by kernel_rfl))⟩
 f15:=Tryz.func226.trans (congrArg some (by kernel_rfl))
 f20:=⟨Tryz.f284.name,by decide,Tryz.func284.trans (congrArg some (by kernel_rfl))⟩
 f21:=⟨Tryz.f285.name,by decide,Tryz.func285.trans (congrArg some (by kernel_rfl))⟩
 f22:=⟨Tryz.f286.name,by decide,Tryz.func286.trans (congrArg some (by kernel_rfl))⟩
 f23:=⟨Tryz.f287.name,by decide,Tryz.func287.trans (congrArg some (by kernel_rfl))⟩
 f24:=⟨Tryz.f288.name,by decide,Tryz.func288.trans (congrArg some (by kernel_rfl))⟩
 f25:=⟨Tryz.f289.name,by decide,Tryz.func289.trans (congrArg some (by kernel_rfl))⟩
 f26:=⟨Tryz.f290.name,by decide,Tryz.func290.trans (congrArg some (by kernel_rfl))⟩
 f27:=⟨Tryz.f291.name,by decide,Tryz.func291.trans (congrArg some (by kernel_rfl))⟩
 f28:=Tryz.func280.trans (congrArg some (by kernel_rfl))
 f29:=Tryz.func281.trans (congrArg some (by kernel_rfl))
 f46:=⟨Tryz.f327.name,by decide,Tryz.func327.trans (congrArg some (by kernel_rfl))⟩
 f47:=Tryz.func323.trans (congrArg some (by kernel_rfl))
 f48:=Tryz.func324.trans (congrArg some (by kernel_rfl))
 f49:=⟨Tryz.f328.name,by decide,Tryz.func328.trans (congrArg some (by kernel_rfl))⟩
 f50:=⟨Tryz.f329.name,by decide,Tryz.func329.trans (congrArg some (by kernel_rfl))⟩
 f57:=⟨Tryz.f345.name,by decide,Tryz.func345.trans (congrArg some (by kernel_rfl))⟩
 t0:=Tryz.underlying0
 a0:=Tryz.isAgg0
 z0:=Tryz.sizeOf0
 v0:=Tryz.zeroValue0
 t3:=Tryz.underlying3
 a3:=Tryz.isAgg3
 z3:=Tryz.sizeOf3
 v3:=Tryz.zeroValue3
 t4:=Tryz.underlying4
 a4:=Tryz.isAgg4
 z4:=Tryz.sizeOf4
 v4:=Tryz.zeroValue4
 t5:=Tryz.underlying5
 a5:=Tryz.isAgg5
 z5:=Tryz.sizeOf5
 v5:=Tryz.zeroValue5
 t9:=Tryz.underlying9
 a9:=Tryz.isAgg9
 z9:=Tryz.sizeOf9
 v9:=Tryz.zeroValue9
 t22:=Tryz.underlying29
 a22:=Tryz.isAgg29
 z22:=Tryz.sizeOf29
 v22:=Tryz.zeroValue29
 t25:=Tryz.underlying106
 a25:=Tryz.isAgg106
 z25:=Tryz.sizeOf106
 v25:=Tryz.zeroValue106
 t39:=Tryz.underlying293
 a39:=Tryz.isAgg293
 z39:=Tryz.sizeOf293
 v39:=Tryz.zeroValue293
 t45:=Tryz.underlying335
 a45:=Tryz.isAgg335
 z45:=Tryz.sizeOf335
 v45:=Tryz.zeroValue335
 t46:=Tryz.underlying336
 a46:=Tryz.isAgg336
 z46:=Tryz.sizeOf336
 v46:=Tryz.zeroValue336
 t50:=Tryz.underlying124
 a50:=Tryz.isAgg124
 z50:=Tryz.sizeOf124
 v50:=Tryz.zeroValue124
 t53:=Tryz.underlying343
 a53:=Tryz.isAgg343
 z53:=Tryz.sizeOf343
 v53:=Tryz.zeroValue343
 t55:=Tryz.underlying345
 a55:=Tryz.isAgg345
 z55:=Tryz.sizeOf345
 v55:=Tryz.zeroValue345
 t66:=Tryz.underlying371
 a66:=Tryz.isAgg371
 z66:=Tryz.sizeOf371
 v66:=Tryz.zeroValue371
 t70:=Tryz.underlying375
 a70:=Tryz.isAgg375
 z70:=Tryz.sizeOf375
 v70:=Tryz.zeroValue375
 t76:=Tryz.underlying384
 a76:=Tryz.isAgg384
 z76:=Tryz.sizeOf384
 v76:=Tryz.zeroValue384
 t77:=Tryz.underlying385
 a77:=Tryz.isAgg385
 z77:=Tryz.sizeOf385
 v77:=Tryz.zeroValue385 }
def Tryz.layT_ren:Go.Shelf.Ren:=⟨fun|6=>188|15=>226|14=>240|28=>280|29=>281|20=>292|21=>293|22=>294|23=>295|24=>296|25=>297|26=>298|27=>299|46=>330|47=>323|48=>324|49=>331|50=>332|57=>346|n=>n,fun|22=>33|24=>9|25=>105|3=>3|39=>293|0=>0|53=>343|55=>345|4=>4|46=>336|45=>335|50=>124|5=>5|9=>9|66=>371|70=>375|76=>384|77=>385|n=>n,fun|n=>n⟩
theorem Tryz.layT:Go.Proofs.SlLaysF.n6 Tryz.prog Tryz.layT_ren:={
 mixed:=by kernel_rfl
 f6:=⟨Tryz.f188.name,by decide,Tryz.func188.trans (congrArg some (by kernel_rfl))⟩
 f14:=⟨Tryz.f240.name,by decide,Tryz.func240.trans (congrArg some (by kernel_rfl))⟩
 f15:=Tryz.func226.trans (congrArg some (by kernel_rfl))
 f20:=⟨Tryz.f292.name,by decide,Tryz.func292.trans (congrArg some (by kernel_rfl))⟩
 f21:=⟨Tryz.f293.name,by decide,Tryz.func293.trans (congrArg some (by kernel_rfl))⟩
 f22:=⟨Tryz.f294.name,by decide,Tryz.func294.trans (congrArg some (by kernel_rfl))⟩
 f23:=⟨Tryz.f295.name,by decide,Tryz.func295.trans (congrArg some (by kernel_rfl))⟩
 f24:=⟨Tryz.f296.name,by decide,Tryz.func296.trans (congrArg some (by kernel_rfl))⟩
 f25:=⟨Tryz.f297.name,by decide,Tryz.func297.trans (congrArg some (by kernel_rfl))⟩
 f26:=⟨Tryz.f298.name,by decide,Tryz.func298.trans (congrArg some (by kernel_rfl))⟩
 f27:=⟨Tryz.f299.name,by decide,Tryz.func299.trans (congrArg some (by kernel_rfl))⟩
 f28:=Tryz.func280.trans (congrArg some (by kernel_rfl))
 f29:=Tryz.func281.trans (congrArg some (by kernel_rfl))
 f46:=⟨Tryz.f330.name,by decide,Tryz.func330.trans (congrArg some (by kernel_rfl))⟩
 f47:=Tryz.func323.trans (congrArg some (by kernel_rfl))
 f48:=Tryz.func324.trans (congrArg some (by kernel_rfl))
 f49:=⟨Tryz.f331.name,by decide,Tryz.func331.trans (congrArg some (by kernel_rfl))⟩
 f50:=⟨Tryz.f332.name,by decide,Tryz.func332.trans (congrArg some (by kernel_rfl))⟩
 f57:=⟨Tryz.f346.name,by decide,Tryz.func346.trans (congrArg some (by kernel_rfl))⟩
 t0:=Tryz.underlying0
 a0:=Tryz.isAgg0
 z0:=Tryz.sizeOf0
 v0:=Tryz.zeroValue0
 t3:=Tryz.underlying3
 a3:=Tryz.isAgg3
 z3:=Tryz.sizeOf3
 v3:=Tryz.zeroValue3
 t4:=Tryz.underlying4
 a4:=Tryz.isAgg4
 z4:=Tryz.sizeOf4
 v4:=Tryz.zeroValue4
 t5:=Tryz.underlying5
 a5:=Tryz.isAgg5
 z5:=Tryz.sizeOf5
 v5:=Tryz.zeroValue5
 t9:=Tryz.underlying9
 a9:=Tryz.isAgg9
 z9:=Tryz.sizeOf9
 v9:=Tryz.zeroValue9
 t22:=Tryz.underlying33
 a22:=Tryz.isAgg33
 z22:=Tryz.sizeOf33
 v22:=Tryz.zeroValue33
 a24:=Tryz.isAgg9
 z24:=Tryz.sizeOf9
 t25:=Tryz.underlying105
 a25:=Tryz.isAgg105
 z25:=Tryz.sizeOf105
 v25:=Tryz.zeroValue105
 t39:=Tryz.underlying293
 a39:=Tryz.isAgg293
 z39:=Tryz.sizeOf293
 v39:=Tryz.zeroValue293
 t45:=Tryz.underlying335
 a45:=Tryz.isAgg335
 z45:=Tryz.sizeOf335
 v45:=Tryz.zeroValue335
 t46:=Tryz.underlying336
 a46:=Tryz.isAgg336
 z46:=Tryz.sizeOf336
 v46:=Tryz.zeroValue336
 t50:=Tryz.underlying124
 a50:=Tryz.isAgg124
 z50:=Tryz.sizeOf124
 v50:=Tryz.zeroValue124
 t53:=Tryz.underlying343
 a53:=Tryz.isAgg343
 z53:=Tryz.sizeOf343
 v53:=Tryz.zeroValue343
 t55:=Tryz.underlying345
 a55:=Tryz.isAgg345
 z55:=Tryz.sizeOf345
 v55:=Tryz.zeroValue345
 t66:=Tryz.underlying371
 a66:=Tryz.isAgg371
 z66:=Tryz.sizeOf371
 v66:=Tryz.zeroValue371
 t70:=Tryz.underlying375
 a70:=Tryz.isAgg375
 z70:=Tryz.sizeOf375
 v70:=Tryz.zeroValue375
 t76:=Tryz.underlying384
 a76:=Tryz.isAgg384
 z76:=Tryz.sizeOf384
 v76:=Tryz.zeroValue384
 t77:=Tryz.underlying385
 a77:=Tryz.isAgg385
 z77:=Tryz.sizeOf385
 v77:=Tryz.zeroValue385 }
end Go.Proofs
set_option linter.all false
namespace Go.Sx
open Go
section
variable {c:List Kind} {f:Fm} {st:List Part} {l:List Evt} {p:Part} {e:Evt} {d:Ivl}
theorem c1p (hi:Inc Part.name st):Inc Part.name (useL st e d):=by
 unfold useL Inc;rw[List.pairwise_map];refine List.Pairwise.imp (fun {a b} h=>?_) hi
 split<;>split<;>exact h
end
section
variable {p:Part} {s:ByteArray} {d:Int}
end
end Go.Sx
set_option linter.all false
namespace Go.Sx
open Go
noncomputable def runsL (f:Fm) (c:List Kind):List Part→List Evt→Option (List Part)
 |st,[]=>some st
 |st,e::l=>if (a0q c st e).2=0 then runsL f c (applyL f c st e).1 l else none
section
variable {f:Fm} {c:List Kind} {D:ByteArray→Bool} {s a b:List Part} {d:Ivl} {v n:ByteArray}
theorem c5c (h:Spl D s a b) (hn:D n=true):upP s n=upP a n∧(upP a n=a0Z∨D (upP a n)=true):=by
 refine⟨by unfold upP;rw[h.find hn],?_⟩;unfold upP
 cases hq:a0E a n with
 |none=>exact .inl rfl
 |some q=>exact (h.na q ((a1s h.ia).1 hq).1).2
theorem b6k (h:Spl D s a b):∀(k:Nat) (n:ByteArray),D n=true→a5O s v k n=a5O a v k n
 |0,_,_=>rfl
 |k+1,n,hn=>by
  obtain⟨h1,h2⟩:=c5c h hn
  simp only[a5O,h1]
  rcases h2 with h2|h2
  ·simp[h2]
  ·rw[b6k h k _ h2]
theorem b3m (h:Spl D s a b) (hv:D v=true):∀(k:Nat) (n:ByteArray),D n=false→a5O s v k n=false
 |0,_,_=>rfl
 |k+1,n,hn=>by
  obtain⟨h1,h2⟩:=c5c h.turn (n:=n) (by simpa using hn)
  simp only[a5O]
  rcases h2 with h2|h2
  ·rw[h1,h2];simp
  ·have h3:D (upP s n)=false:=by rw[h1];simpa using h2
   rw[b3m h hv k _ h3]
   have:¬upP s n=v:=fun e=>by rw[e,hv]at h3;cases h3
   simp[this]
theorem c8x (h:Spl D s a b) (hv:D v=true) (hn:D n=true):b8f s v n↔b8f a v n:=by
 unfold b8f;rw[h.find hv,h.find hn];refine and_congr_right fun _=>exists_congr fun k=>?_
 rw[b6k h k n hn]
theorem c6d (h:Spl D s a b) (hv:D v=true) (hn:D n=false):¬b8f s v n:=fun ⟨_,k,hk⟩=>by rw[b3m h hv k n hn]at hk;cases hk
theorem Spl.use (h:Spl D s a b) {e:Evt} (hv:D e.part=true):Spl D (useL s e d) (useL a e d) b:=by
 have hA:∀y∈a,(y.name=e.part∨b8f s e.part y.name)↔(y.name=e.part∨b8f a e.part y.name):=fun y hy=>by rw[c8x h hv (h.na y hy).1]
 have hB:∀y∈b,¬(y.name=e.part∨b8f s e.part y.name):=fun y hy=>by
  have hd:=(h.nb y hy).1
  rintro (h1|h1)
  ·rw[h1,hv]at hd;cases hd
  ·exact c6d h hv hd h1
 refine⟨c1p h.is,c1p h.ia,h.ib,fun x=>?_,fun x hx=>?_,h.nb⟩
 ·unfold useL;rw[List.mem_map,List.mem_map]
  constructor
  ·rintro⟨y,hy,rfl⟩
   rcases (h.mem y).1 hy with hy|hy
   ·refine .inl ⟨y,hy,?_⟩
    by_cases h1:y.name=e.part∨b8f s e.part y.name
    ·rw[if_pos h1,if_pos ((hA y hy).1 h1)]
    ·rw[if_neg h1,if_neg (fun h2=>h1 ((hA y hy).2 h2))]
   ·rw[if_neg (hB y hy)];exact .inr hy
  ·rintro (⟨y,hy,rfl⟩|hx)
   ·refine⟨y,(h.mem y).2 (.inl hy),?_⟩
    by_cases h1:y.name=e.part∨b8f s e.part y.name
    ·rw[if_pos h1,if_pos ((hA y hy).1 h1)]
    ·rw[if_neg h1,if_neg (fun h2=>h1 ((hA y hy).2 h2))]
   ·exact⟨x,(h.mem x).2 (.inr hx),if_neg (hB x hx)⟩
 ·unfold useL at hx
  obtain⟨y,hy,rfl⟩:=List.mem_map.1 hx
  split
  ·exact h.na y hy
  ·exact h.na y hy
end
section
variable {f:Fm} {c:List Kind} {l:List Rep} {s:List Part} {R:Nat→Nat} {t T:List Int} {E:List Evt} {r k:Nat} {p:ByteArray} {day:Int}
end
end Go.Sx
set_option linter.all false
namespace Go.Sx
open Go
def d0k:List Ivl→Ivl
 | []=>b5e
 |x::r=>r.foldl a7G x
noncomputable def lifeA (f:Fm) (c:List Kind) (own:List Rep) (p:ByteArray) (day:Int):List (Option Part):=(a2m c own 4096).1.map fun t=>a0E (runL f c (a1L own t).1 day).1 p
def d0J (f:Fm) (c:List Kind) (l own:List Rep) (day:Int):Int:=if (!a1g c || !a9V f)=true then 1 else if (decide (day<0)||decide (day>40000))=true then 1 else a6h c l own
noncomputable def bndF (g:Option Part→Ivl) (f:Fm) (c:List Kind) (l own:List Rep) (p:ByteArray) (day:Int):Ivl×Int:=
 if d0J f c l own day≠0 then (b5e,d0J f c l own day) else if (lifeA f c own p day).any Option.isSome=false then (b5e,2) else (d0k ((lifeA f c own p day).map g),0)
def kmO (o:Option Part):Ivl:=(o.getD zPart).life.km
def cyO (o:Option Part):Ivl:=(o.getD zPart).life.cycles
def daO (o:Option Part):Ivl:=(o.getD zPart).life.damage
def d1f (s:ByteArray) (day:Int) (o:Option Part):Ivl:=match o with
 |some p=>(c9H p s day).1
 |none=>b5e
noncomputable def bndLife (f:Fm) (c:List Kind) (l own:List Rep) (p:ByteArray) (day:Int):Life×Int:=(⟨(bndF kmO f c l own p day).1,(bndF cyO f c l own p day).1,(bndF daO f c l own p day).1⟩,(bndF kmO f c l own p day).2)
noncomputable def bndVal (s:ByteArray) (f:Fm) (c:List Kind) (l own:List Rep) (p:ByteArray) (day:Int):Ivl×Int:=if c8y s=false then (b5e,15) else bndF (d1f s day) f c l own p day
section
variable {L M:List Ivl} {x:Ivl}
end
section
variable {f:Fm} {c:List Kind} {l own:List Rep} {R:Nat→Nat} {p s:ByteArray} {day:Int} {g g':Option Part→Ivl} {k:Nat}
end
end Go.Sx
namespace Go.Proofs.YtdapmfkbpnjkmaaGreat
open Go Go.Sx
set_option linter.all false
set_option maxRecDepth 20000
set_option maxHeartbeats 4000000
instance T.by_55:Has (a2D Tryz.prog 55) ([.string ⟨#[]⟩,.string ⟨#[]⟩],2,32):=⟨by kernel_rfl⟩
instance T.by_64:Has (a2D Tryz.prog 64) ([.slice none 0 0,.bool false],2,32):=⟨by kernel_rfl⟩
instance T.elt_29:Has (a8r Tryz.prog 29) (55,2):=⟨by kernel_rfl⟩
theorem T.eqg_55:Tryz.prog.eqGuardType Tryz.prog.depth 55=false:=by kernel_rfl
instance T.fld_55_0:Has (a3Q Tryz.prog 55 0) (0,false,1):=⟨by kernel_rfl⟩
instance T.fld_55_1:Has (a3Q Tryz.prog 55 1) (1,false,1):=⟨by kernel_rfl⟩
instance T.pl_55:Has (plK Tryz.prog 55) [(0,1),(1,1)]:=⟨by kernel_rfl⟩
instance T.ty_103:Has (tyK Tryz.prog 103) (false,1):=⟨by kernel_rfl⟩
instance T.ty_111:Has (tyK Tryz.prog 111) (false,1):=⟨by kernel_rfl⟩
instance T.ty_178:Has (tyK Tryz.prog 178) (false,1):=⟨by kernel_rfl⟩
instance T.ty_184:Has (tyK Tryz.prog 184) (false,1):=⟨by kernel_rfl⟩
instance T.ty_29:Has (tyK Tryz.prog 29) (false,1):=⟨by kernel_rfl⟩
instance T.ty_55:Has (tyK Tryz.prog 55) (true,2):=⟨by kernel_rfl⟩
instance T.und_178:Has (Tryz.prog.underlying 178) (.map 55 4):=⟨by kernel_rfl⟩
instance T.und_29:Has (Tryz.prog.underlying 29) (.slice 55):=⟨by kernel_rfl⟩
instance T.zero_178:Has (a2t Tryz.prog 178) [.map none]:=⟨by kernel_rfl⟩
instance T.zero_184:Has (a2t Tryz.prog 184) [.map none]:=⟨by kernel_rfl⟩
instance T.zero_25:Has (a2t Tryz.prog 25) [.slice none 0 0]:=⟨by kernel_rfl⟩
instance T.zero_55:Has (a2t Tryz.prog 55) [.string ⟨#[]⟩,.string ⟨#[]⟩]:=⟨by kernel_rfl⟩
theorem c8F (I:IMap) (v:Value) (l:List Rep) (hv:RdS I v l) (hl:l.length≤1000000) (hsl:∀r∈l,∀e∈r.options,SmE e) (p:ByteArray) (R:Nat→Nat) (hRt:Rts l R) :
    FnI Tryz.prog 33 #[v,.string p] I (fun u J=>RdS J u (nI (ofN l R p))):=by
 refine enter Tryz.func33 Tryz.call33 rfl Tryz.ntmps33 rfl (fun w0=>?_);refine go 9 ?_;refine b9R (b7o _ _ l hv hl hsl) rfl rfl (fun v13 I13 H13 j13 q13=>?_);obtain⟨w,m,F,kvs,fm,rfl,rfl,hK,hM⟩:=q13
 have hR:rt F=R:=(hK.done (fun k z hk h=>⟨hk,h⟩)).uniq hRt
 have hFl:=hK.len
 refine go 11 ?_;refine o_v rfl (b3M m1 (a1K he) he he (p) rfl rfl rfl rfl) ?_;refine go 14 ?_;refine cb rfl (fun h23 p23=>?_) (fun h23 p23=>?_)
 ·have hq0:fm p=none:=by
    cases hq:fm p with
    |none=>rfl
    |some q=>rw[hM,hq]at h23;cases h23
  refine go 7 ?_;refine a0s rfl rfl ?_
  have hno:ofN l R p=[]:=b9W fun k hk h=>by obtain⟨q,hq,_⟩:=hK.seen k p ⟨hk,h⟩;rw[hq0]at hq;cases hq
  exact q_i (by rw[hno];exact RdS.nil')
 ·obtain⟨q,hq⟩:∃q,fm p=some q:=by
    cases hq:fm p with
    |none=>rw[hM,hq]at h23;cases h23
    |some q=>exact⟨q,rfl⟩
  have hmg:(a5t kvs p).getD (.int .i64 0) = .int .i64 (q:Int):=by rw[hM,hq];rfl
  rw[hmg];obtain⟨hql,hqh,hqn⟩:=hK.own _ q hq;refine go 4 ?_;refine a1f 3 1 ?_;refine go 6 ?_;refine a0f ?_;refine a2Q (fun Aw cw hw=>?_);subst hw;refine go 6 ?_;refine a0o ?_;refine a0b ?_
  refine a5x ((0:Nat)) (F) (_) ([]) (I13) (fun i F1 v9 xs J=>J)
   (fun i F1 v9 xs J=>[(5,.slice Aw F.length cw),(7,.int .i64 ((q:Nat):Int)),(9,v9),(25,.int .i64 ((F.length:Nat):Int)),(26,.int .i64 ((i:Nat):Int))])
   (fun i F1 v9 xs J=>.row (.slice Aw F.length cw) 3 1 F.length (a5b F1).flatten :: .row v9 3 1 (a2c R i (R q)).length xs::([]:List Res))
   (fun i F1 v9 xs J=>i≤F.length∧F1.length=F.length∧Fst F1∧(∀k,rt F1 k=R k)∧ILe I13 J∧Flat J xs (nI (a2c R i (R q))))
   (fun i F1 v9 xs J=>F.length-i) ⟨Nat.zero_le _,rfl,hK.fst,fun k=>by rw[hR],ILe.refl _,.nil⟩ rfl sb rfl ?_
  intro i F1 v9 xs J ⟨hi,hF1l,hF1,hr1,hJ,hF⟩
  have hml:(a2c R i (R q)).length≤i:=by unfold a2c;exact Nat.le_trans (List.length_filter_le _ _) (by rw[List.length_range];exact Nat.le_refl _)
  refine go 6 ?_;refine cb rfl (fun h27 p27=>?_) (fun h27 p27=>?_)
  ·have hlt:i<F.length:=by omega
   refine go 12 ?_;refine a8n (a2j F1) (by rw[a3Z];exact hF1l) (fun h0 _=>by omega) (fun g9 cap9 rest9 hv9 hR9 hc9 hl9=>?_)
   cases hv9
   refine go 3 ?_;refine a7K (hF1l▸a8H _ g9 cw F1 rest9 hR9 hF1 i (by omega)) rfl rfl (fun v31 I31 s31 j31 q31=>?_)
   have hF:=hF.le j31
   obtain⟨G,rfl,rfl,hG,hFG,hr⟩:=q31;rw[hr1 i];refine go 3 ?_;refine a7K (hG▸a8H _ g9 cw G rest9 hR9 hFG q (by omega)) rfl rfl (fun v34 I34 s34 j34 q34=>?_)
   have hF:=hF.le j34
   obtain⟨G2,rfl,rfl,hG2,hFG2,hr2⟩:=q34;rw[hr q,hr1 q];refine a2G (a2j G2) hR9 (by rw[a3Z];omega) hc9 hl9 ?_;refine go 3 ?_;refine cb rfl (fun h35 p35=>?_) (fun h35 p35=>?_)
   ·refine go 4 ?_;refine a0c he he rfl rfl rfl rfl rfl rfl rfl (fun v38=>?_);refine go 1 ?_;refine a0o ?_;refine a0v he he rfl rfl rfl rfl rfl (by omega) (by omega) rfl (fun v39=>?_);refine go 9 ?_;refine a0f ?_;refine a0b ?_;refine a0f ?_;exact a1T (i+1) (G2) (_) (_) (_) ⟨by omega,by omega,hFG2,fun k=>by rw[hr2,hr,hr1],hJ.trans (j31.trans j34),by rw[a5i,if_pos (by omega),c8K];exact hF.append (.one rfl)⟩ (by omega) rfl sb (by rw[a5i,if_pos (by omega),List.length_append];rfl)
   ·refine go 8 ?_;exact a1T (i+1) (G2) (_) (_) (_) ⟨by omega,by omega,hFG2,fun k=>by rw[hr2,hr,hr1],hJ.trans (j31.trans j34),by rw[a5i,if_neg (by omega)];exact hF⟩ (by omega) rfl sb (by rw[a5i,if_neg (by omega)])
  ·obtain rfl:i=F.length:=by omega
   refine go 12 ?_;refine a0s rfl rfl ?_;refine a0b ?_;refine a0l (l:=nI (a2c R F.length (R q))) rfl (by rw[a4S]) hF (fun I9 j9 R9=>?_);exact q_i (by rw[b4x hRt hqh hqn,←hFl];exact R9)
theorem c8p (I:IMap) (v:Value) (l:List Part) (hv:RdS I v l) (p:ByteArray) :
    FnV Tryz.prog 28 #[.agg #[v],.string p] I (.string (a7k p l)):=by
 have hv0:=hv
 obtain⟨A,c0,rfl,hA,hc,hm⟩:=hv;refine enter Tryz.func28 Tryz.call28 rfl Tryz.ntmps28 rfl (fun w0=>?_);refine go 3 ?_;refine a0B _ rfl rfl rfl (fun g2=>?_);refine go 7 ?_;refine a4v (d0i _ _ l hv0) rfl rfl (fun v9 s9 q9=>?_);obtain⟨m9,kvs,rfl,rfl,hIx,hnd⟩:=q9;refine go 1 ?_;refine a0j he rfl (fun g5=>?_);refine go 1 ?_;refine a0p _ he rfl rfl rfl rfl rfl rfl ?_;refine go 12 ?_;refine a0o ?_;refine a0b ?_;refine a0f ?_
 refine a1z ((0:Nat)) (p) (fun i q=>I)
  (fun i q=>[(1,.string q),(5,.pointer (some ⟨g5,0,none⟩)),(12,.int .i64 ((l.length:Nat):Int)),(13,.int .i64 ((i:Nat):Int))])
  (fun i q=>[.mp m9 (a2E Value.string kvs),.blk g5 118 [.slice A l.length c0,.map (some m9)]])
  (fun i q=>i≤l.length∧a7k p l=rootGo l (l.length-i) q)
  (fun i q=>l.length-i) ⟨Nat.zero_le _,rfl⟩ rfl sb rfl ?_
 intro i q ⟨hi,hr⟩;refine go 6 ?_;refine cb rfl (fun h14 p14=>?_) (fun h14 p14=>?_)
 ·have hlt:i<l.length:=by omega
  refine go 9 ?_;refine a7L (c2w _ _ l hv0 m9 kvs hIx q) rfl rfl (fun v18 q18=>?_);obtain⟨vs18,rfl,s18,rfl,hs18⟩:=q18;refine go 4 ?_;refine a0j he rfl (fun g6=>?_);refine go 1 ?_;refine a0p _ he rfl rfl rfl rfl rfl (Enc.one (α:=Part) (I:=I) (x:=(a0E l q).getD zPart) ⟨s18,rfl,hs18⟩) ?_;refine go 10 ?_;refine cb rfl (fun h22 p22=>?_) (fun h22 p22=>?_)
  ·refine go 12 ?_;refine a0s rfl rfl ?_;exact q_v (congrArg Value.string (by rw[hr];exact (c0G hlt (by simpa using h22)).symm))
  ·refine go 10 ?_;refine cb rfl (fun h25 p25=>?_) (fun h25 p25=>?_)
   ·refine go 13 ?_;refine a0s rfl rfl ?_;exact q_v (congrArg Value.string (by rw[hr];exact (c0E hlt (by simpa using h22) p25).symm))
   ·refine go 14 ?_;refine a0b ?_;exact a0X (i+1) (((a0E l q).getD zPart).into) ⟨by omega,by rw[hr];exact c0F hlt (by simpa using h22) p25⟩ (by omega) rfl sb rfl
 ·refine go 11 ?_;refine a0s rfl rfl ?_;obtain rfl:i=l.length:=by omega
  exact q_v (congrArg Value.string (by rw[hr,Nat.sub_self];rfl))
theorem b1u (a b:Plc):eqV Tryz.prog 9 55 (.agg a.cells.toArray) (.agg b.cells.toArray)=some (decide (a=b)):=by
 rw[←Plc.eqB_eq]
 kernel_rfl
theorem c8C:KeyOK Tryz.prog 55 a9i:=b0x (cells:=Plc.cells) (by kernel_rfl) (fun p q=>b1u p q) (fun p=>by kernel_rfl) (fun p=>by simp[Plc.cells,b5j,b5i])
theorem c3e (I:IMap) (v:Value) (l:List Part) (hv:RdS I v l) (p:ByteArray) (g:Nat) (kp:ICells I g 0 [.string p]) :
    FnV Tryz.prog 54 #[.agg #[v],.pointer (some ⟨g,0,none⟩)] I (.agg (a7P p l).cells.toArray):=by
 refine enter Tryz.func54 Tryz.call54 rfl Tryz.ntmps54 rfl (fun w0=>?_);refine go 3 ?_;refine a0B _ rfl rfl rfl (fun g2=>?_);refine go 1 ?_;refine a0j he rfl (fun g3=>?_);refine go 5 ?_;refine o_v rfl (a0K he rfl (kp 0 _ rfl)) ?_;refine go 1 ?_;refine a2p (c4K _ _ l hv p) rfl rfl (fun v9 q9=>?_);obtain⟨vs9,rfl,s9,rfl,hs9⟩:=q9;refine go 4 ?_;refine a0j he rfl (fun g4=>?_);refine go 1 ?_;refine a0p _ he rfl rfl rfl rfl rfl (Enc.one (α:=Part) (x:=(a0E l p).getD zPart) ⟨s9,rfl,hs9⟩) ?_;refine go 10 ?_;refine a0t rfl (a0H (pl:=[(0,1),(1,1)]) he he rfl rfl) ?_;refine go 1 ?_;refine a0f ?_;refine a0p _ he rfl rfl rfl rfl rfl rfl ?_;refine go 3 ?_;refine a0s rfl ⟨_,_,_,rfl,m0,.inr ⟨_,he,rfl,rfl⟩⟩ ?_;exact q_v rfl
theorem b7G (I:IMap) (v:Value) (l:List Part) (hv:RdS I v l) (p:ByteArray) (g:Nat) (kp:ICells I g 0 [.string p]) :
    FnV Tryz.prog 63 #[.agg #[v],.pointer (some ⟨g,0,none⟩)] I (.string (a7k p l)):=by
 refine enter Tryz.func63 Tryz.call63 rfl Tryz.ntmps63 rfl (fun w0=>?_);refine go 3 ?_;refine a0B _ rfl rfl rfl (fun g2=>?_);refine go 6 ?_;refine o_v rfl (a0K he rfl (kp 0 _ rfl)) ?_;refine go 1 ?_;refine a0d (c8p _ v l hv p) rfl rfl ?_;refine go 4 ?_;refine a0s rfl rfl ?_;exact q_v rfl
theorem c0m (I:IMap) (v:Value) (l:List Part) (hv:RdS I v l) (y z:ByteArray) (g1 g2:Nat) (k1:ICells I g1 0 [.string y]) (k2:ICells I g2 0 [.string z]) :
    FnV Tryz.prog 62 #[.agg #[v],.pointer (some ⟨g1,0,none⟩),.pointer (some ⟨g2,0,none⟩)] I (.string (a3z y z l)):=by
 have hv0:=hv
 obtain⟨A,c0,rfl,hA,hc,hm⟩:=hv;refine enter Tryz.func62 Tryz.call62 rfl Tryz.ntmps62 rfl (fun w0=>?_);refine go 3 ?_;refine a0B _ rfl rfl rfl (fun g3=>?_);refine go 13 ?_;refine a0b ?_
 refine a0Q (α:=Nat) 0 (fun i=>I)
  (fun i=>[(1,.pointer (some ⟨g1,0,none⟩)),(2,.pointer (some ⟨g2,0,none⟩)),(8,.slice A l.length c0),(9,.int .i64 ((l.length:Nat):Int)),(10,.int .i64 ((i:Nat):Int))])
  (fun i=>[])
  (fun i=>i≤l.length∧a3z y z l=a3z y z (l.drop i))
  (fun i=>l.length-i) ⟨Nat.zero_le _,rfl⟩ rfl sb rfl ?_
 intro i ⟨hi,hn⟩;refine go 6 ?_;refine cb rfl (fun h11 p11=>?_) (fun h11 p11=>?_)
 ·have hlt:i<l.length:=by omega
  refine go 6 ?_;obtain⟨b12,o12,w12,e12,c12,r12⟩:=RdA.at_ hA (i:=i) hlt;obtain⟨q12,rfl,B12,d12,rfl,hB12,hd12,hm12⟩:=r12;refine o_v rfl (a0h he rfl rfl e12 (i) (by omega) hlt) ?_;refine o_v rfl (a0G he rfl c12 rfl) ?_;refine go 1 ?_;refine a0j he rfl (fun g6=>?_);refine go 1 ?_;refine a0p _ he rfl rfl rfl rfl rfl (Enc.one (α:=Part) (x:=l[i]) ⟨_,rfl,B12,d12,rfl,hB12,hd12,hm12⟩) ?_;refine go 9 ?_;refine a0t rfl (a0H (pl:=[(0,1),(1,1)]) he he rfl rfl) ?_;refine o_v rfl (a0K he rfl (k1 0 _ rfl)) ?_;refine o_v rfl (a0K he rfl (k2 0 _ rfl)) ?_;refine go 1 ?_;refine a0t rfl (a0H (pl:=[(0,1),(1,1)]) he he rfl rfl) ?_;refine o_v rfl (a9T T.eqg_55 (b1u ⟨l[i].into,l[i].slot⟩ ⟨y,z⟩) rfl rfl) ?_;refine go 2 ?_;refine cb rfl (fun h22 p22=>?_) (fun h22 p22=>?_)
  ·refine go 13 ?_;refine a0s rfl rfl ?_;exact q_v (congrArg Value.string (c6v hlt hn p22).symm)
  ·refine go 8 ?_;refine a0b ?_;exact a0M (i+1) ⟨by omega,c2W hlt hn p22⟩ (by omega) rfl sb rfl
 ·refine go 11 ?_;refine a0s rfl rfl ?_;exact q_v (congrArg Value.string (c6u (by omega) hn).symm)
theorem d0e (I:IMap) (v:Value) (l:List Int) (hv:RdS I v l) :
    FnV Tryz.prog 56 #[v] I (.int .i64 (orI l)):=by
 have hv0:=hv
 obtain⟨A,c0,rfl,hA,hc,hm⟩:=hv;refine enter Tryz.func56 Tryz.call56 rfl Tryz.ntmps56 rfl (fun w0=>?_);refine go 19 ?_
 refine a0Q (α:=Nat) 0 (fun i=>I)
  (fun i=>[(3,.int .i64 (0)),(6,.slice A l.length c0),(7,.int .i64 ((l.length:Nat):Int)),(8,.int .i64 ((i:Nat):Int))])
  (fun i=>[])
  (fun i=>i≤l.length∧orI l=orI (l.drop i))
  (fun i=>l.length-i) ⟨Nat.zero_le _,rfl⟩ rfl sb rfl ?_
 intro i ⟨hi,hn⟩;refine go 6 ?_;refine cb rfl (fun h9 p9=>?_) (fun h9 p9=>?_)
 ·have hlt:i<l.length:=by omega
  refine go 6 ?_;obtain⟨b10,o10,w10,e10,c10,r10⟩:=RdA.at_ hA (i:=i) (by omega);obtain rfl:=r10;refine o_v rfl (a0h he rfl rfl e10 (i) (by omega) (by omega)) ?_;refine o_v rfl (a0K he rfl (c10 0 _ rfl)) ?_;refine go 10 ?_;refine cb rfl (fun h14 p14=>?_) (fun h14 p14=>?_)
  ·refine go 12 ?_;refine a0s rfl rfl ?_;exact q_v (congrArg (Value.int .i64) (by rw[hn,c8O hlt p14]))
  ·refine go 8 ?_;exact a0M (i+1) ⟨by omega,by rw[hn,c6y hlt p14]⟩ (by omega) rfl sb rfl
 ·refine go 12 ?_;refine a0s rfl rfl ?_;exact q_v (congrArg (Value.int .i64) (by rw[hn,List.drop_eq_nil_of_le (by omega)];rfl))
theorem d0v (I:IMap) (a b:Plc) :
    FnV Tryz.prog 55 #[.agg a.cells.toArray,.agg b.cells.toArray] I (.int .i64 (a8p a b)):=by
 refine enter Tryz.func55 Tryz.call55 rfl Tryz.ntmps55 rfl (fun w0=>?_);refine go 3 ?_;refine a0B _ rfl rfl rfl (fun g2=>?_);refine go 1 ?_;refine a0B _ rfl rfl rfl (fun g3=>?_);refine go 4 ?_;refine a2Z (fun hE1 hf1=>?_);refine a0F T.mixed ?_;refine a0e 0 rfl rfl (by kernel_rfl) rfl (.refl _) rfl (a0g he rfl) ?_;refine a0e 1 rfl rfl (by kernel_rfl) rfl (.refl _) rfl (a2H m1 he rfl rfl) ?_;refine a0e 2 rfl rfl (by kernel_rfl) rfl (.refl _) rfl (a0g he rfl) ?_;refine a0e 3 rfl rfl (by kernel_rfl) rfl (.refl _) rfl (a2H m0 he rfl rfl) ?_;refine a0e 5 rfl rfl (by kernel_rfl) rfl (.refl _) rfl (a0g he rfl) ?_;refine a0e 6 rfl rfl (by kernel_rfl) rfl (.refl _) rfl (a2H m1 he rfl rfl) ?_;refine a0e 7 rfl rfl (by kernel_rfl) rfl (.refl _) rfl (a0g he rfl) ?_;refine a0e 8 rfl rfl (by kernel_rfl) rfl (.refl _) rfl (a2H m0 he rfl rfl) ?_;refine a0m 4 (by kernel_rfl) rfl ?_;refine a0d (a3i _ a.into b.into) rfl rfl ?_;refine a0D (fun _ m=>m.keeps (.refl _)) ?_;refine a0m 9 (by kernel_rfl) rfl ?_;refine a0d (a3i _ a.slot b.slot) rfl rfl ?_;refine a0D (fun _ m=>m.keeps (.refl _)) ?_;refine a0m 10 (by kernel_rfl) rfl ?_;refine a0c he he rfl rfl rfl rfl rfl rfl rfl (fun v15=>?_);refine a0l (l:=[a6m a.into b.into,a6m a.slot b.slot]) rfl rfl ((b0w [a6m a.into b.into,a6m a.slot b.slot])) (fun I15 j15 R15=>?_);refine a0D (fun _ m=>m.keepsI (.refl _) (j15) hE1 hf1) ?_;refine a0m 11 (by kernel_rfl) rfl ?_;refine a0d (d0e _ _ _ R15) rfl rfl ?_;refine a0D (fun _ m=>m.keepsI (.refl _) (j15) hE1 hf1) ?_;refine d_t 12 rfl rfl (by kernel_rfl) rfl (fun _ m=>m.keepsI (.refl _) (j15) hE1 hf1) (y_v rfl (a0Y rfl)) ?_;refine a0n (by kernel_rfl) ?_;refine go 2 ?_;refine a0s rfl rfl ?_;exact c7J rfl
theorem c3L (I:IMap) (v:Value) (l:List Plc) (hl:l.length≤1000000) :
  FnX Tryz.prog 177 #[v,.func (.func 55) #[] #[]] I [.row v 55 2 l.length (l.flatMap Plc.cells)] (fun u r=>u = .tuple #[]∧∃m,b6N a8p l m∧r = .row v 55 2 l.length (m.flatMap Plc.cells)):=
 c3N (k:=2) (cells:=Plc.cells) (cf:=a8p) (fun args w=>Tryz.call177 args w) (fun args w=>Tryz.call55 args w)
  (fun blk off cap d w hc hH hb hs=>AnyQ.slices_SortFunc Tryz.layQ 2 Tryz.isAgg55 Tryz.sizeOf55 Plc.cells (fun _=>rfl) (fun x v hv=>by simp[Plc.cells]at hv;rcases hv with rfl|rfl<;>rfl) a8p c6D 55 #[] blk off cap d w (fun args w=>Tryz.call55 args w) hc hH hb hs)
  (fun w=>AnyF.slices_SortFunc_none { Tryz.layQ with } none 0 _ w) (fun x y=>d0v I00 x y) (fun _=>rfl) hl
theorem c3M (I:IMap) (v:Value) (l:List ByteArray) (hl:l.length≤1000000) :
  FnX Tryz.prog 188 #[v,.func (.func 57) #[] #[]] I [.row v 9 1 l.length (l.map Value.string)] (fun u r=>u = .tuple #[]∧∃m,b6N a6m l m∧r = .row v 9 1 l.length (m.map Value.string)):=
 c0S (cf:=a6m) (fun args w=>Tryz.call188 args w) (fun args w=>Tryz.call57 args w)
  (fun blk off cap d w hc hH hb hs=>Any.slices_SortFunc Tryz.layT Value.string (fun _=>rfl) a6m c7i 57 #[] blk off cap d w (fun args w=>Tryz.call57 args w) hc hH hb hs)
  (fun w=>AnyF.slices_SortFunc_none { Tryz.layT with } none 0 _ w) (fun x y=>a3i I00 x y) hl
theorem c6g (I:IMap) (S:ItS) (r:Nat) (kvs:List (Plc×Value)) (hO0:S.Ok a9i kvs) (hT0:S.Todo a9i kvs) (hS0:S.seen=#[]) (g1:Nat) (c1:ICells I g1 0 [.map (some r)]) (hmp:I r=some S.mp) :
    b6M Tryz.prog 178 [.pointer (some ⟨g1,0,none⟩)] I (fun _ vs (x:Plc)=>vs=[.agg x.cells.toArray]) (fun pre _=>pre.length<kvs.length) (fun pre=>pre.Perm (kvs.map Prod.fst)) (fun _=>True):=by
 intro ly J I1 Hc hI1 hJm hY hJ0
 have c1:=c1.le hI1
 have hmp:=(hI1) _ _ hmp
 refine enter Tryz.func178 Tryz.call178 rfl Tryz.ntmps178 rfl (fun w0=>?_);refine go 2 ?_;refine o_v rfl (a0K he rfl (c1 0 _ rfl)) ?_;refine go 1 ?_;refine b5V (a7y hmp) hS0 he rfl rfl (fun i5=>?_);refine go 3 ?_
 refine a5x (S) (kvs) ([]) (I1) (Hc) (fun S2 todo pre I2 Hc=>I2)
  (fun S2 todo pre I2 Hc=>[(0,.func (.yield ly) #[] #[]),(5,.pointer (some ⟨i5,0,none⟩))])
  (fun S2 todo pre I2 Hc=>.any i5 (S2.it r)::Hc)
  (fun S2 todo pre I2 Hc=>ILe I1 I2∧S2.mp=S.mp∧S2.Ok a9i kvs∧S2.Todo a9i todo∧(pre++todo.map Prod.fst).Perm (kvs.map Prod.fst)∧J true pre I2 Hc)
  (fun S2 todo pre I2 Hc=>todo.length) ⟨ILe.refl _,rfl,hO0,hT0,.refl _,hJ0⟩ rfl sb rfl ?_
 intro S2 todo pre I2 Hc ⟨hI2,hme,hO,hT,hP,hJ⟩
 have hmp2:I2 r=some S2.mp:=by rw[hme];exact hI2 _ _ hmp
 refine go 3 ?_;refine b9V (a7y hmp2) hO hT rfl rfl (fun q6 S6 t6 hst he6=>?_);refine o_v rfl (a1C rfl (b9N _ _)) ?_;refine go 3 ?_;refine cb rfl (fun h7 p7=>?_) (fun h7 p7=>?_)
 ·obtain⟨e2,a,b,htd,hO1,hT1,hA1,rfl,rfl⟩:=hst.some h7
  have hmp3:I2 r=some S6.mp:=by rw[he6];exact hmp2
  refine go 5 ?_;refine o_v rfl (b6J (a7y hmp3) m0 hO1 hA1 rfl) ?_;refine o_v rfl (OV.cast (u:=.agg e2.1.cells.toArray) (a1C rfl rfl) rfl) ?_;refine go 1 ?_;refine a0j he rfl (fun g3=>?_);refine go 1 ?_;refine a0p _ he rfl rfl rfl rfl rfl rfl ?_;refine go 7 ?_;refine a8L (e2.1) hY (hJm _ _ _ _ _ (ILe.refl _) hJ) (rfl) ((b5J hP htd)) rfl rfl rfl (fun b12 I12 Hc12 j12 hJ12=>?_);refine go 3 ?_;refine cb rfl (fun h13 p13=>?_) (fun h13 p13=>?_)
  ·have hb12:b12=false:=by simpa using h13
   refine go 4 ?_;refine b8g rfl ?_;refine a0b ?_;refine a0b ?_;subst hb12;exact b8h false _ hJ12 trivial
  ·have hb12:b12=true:=by simpa using h13
   refine go 3 ?_;refine a0b ?_;exact a1T (S6) (a++b) (pre++[e2.1]) (I12) (Hc12) ⟨hI2.trans j12,he6.trans hme,hO1,hT1,b0y hP htd,hb12▸hJ12⟩ (by rw[htd];simp) rfl sb rfl
 ·obtain⟨rfl,rfl,rfl⟩:=hst.none h7;refine go 4 ?_;refine a6E rfl ?_;refine a0b ?_;exact b8h true _ hJ (by simpa using hP)
theorem c8D (I:IMap) (r:Nat) :
    FnI Tryz.prog 108 #[.map (some r)] I (fun u J=>∃g,u = .func (.func 178) #[] #[.pointer (some ⟨g,0,none⟩)]∧ICells J g 0 [.map (some r)]):=by
 refine enter Tryz.func108 Tryz.call108 rfl Tryz.ntmps108 rfl (fun w0=>?_);refine go 3 ?_;refine a0B _ rfl rfl rfl (fun g1=>?_);refine go 5 ?_;refine a1Q (fun Ig1 jg1 cg1=>?_);refine o_v rfl (a1i rfl rfl) ?_;refine go 4 ?_;refine a0s rfl rfl ?_;exact q_i ⟨_,rfl,cg1⟩
theorem b6P (I:IMap) (g:Nat) (Ls:List Plc) (hLs:Ls.length≤1000000) (hit:b6M Tryz.prog 178 [.pointer (some ⟨g,0,none⟩)] I (fun _ vs (x:Plc)=>vs=[.agg x.cells.toArray]) (fun pre _=>pre.length<Ls.length) (fun pre=>pre.Perm Ls) (fun _=>True)) :
    FnH Tryz.prog 234 #[.slice none 0 0,.func (.func 178) #[] #[.pointer (some ⟨g,0,none⟩)]] I [] (fun u J H2=>∃m:List Plc,H2=[.row u 55 2 m.length (m.flatMap Plc.cells)]∧m.Perm Ls):=by
 refine enter Tryz.func234 Tryz.call234 rfl Tryz.ntmps234 rfl (fun w0=>?_);refine go 3 ?_;refine a0B _ rfl rfl rfl (fun g2=>?_);refine go 6 ?_;refine a1f 55 2 ?_;refine go 4 ?_;refine a0f ?_;refine a6s (σ:=Value×List Plc) (ps:=[7]) (.slice none 0 0,[]) (fun ⟨v2,m⟩=>[.blk g2 29 [v2],.row v2 55 2 m.length (m.flatMap Plc.cells)]) (fun pre I ⟨v2,m⟩=>m=pre) (fun _ _ _ _=>False) rfl Tryz.call178 (hit) (fun I vs x h=>by rw[h];rfl) rfl (fun pre I I' s hI h=>by obtain⟨v2,m⟩:=s;exact h) (fun _ _ _ _ _ _ h=>h) (rfl) rfl ?_ ?_ ?_
 ·rintro r E1 pre x vs I1 ⟨v2,m⟩ hI1 rfl rfl hlt;refine c1g ?_;refine go 2 ?_;refine a0j he rfl (fun g5=>?_);refine go 1 ?_;refine a0p _ he rfl rfl rfl rfl rfl rfl ?_;refine go 1 ?_;refine a0f ?_;refine a6A ?_;refine go 5 ?_;refine a0c he he rfl rfl rfl rfl rfl rfl rfl (fun v10=>?_);refine go 1 ?_;refine b8u ?_;refine a0v he he rfl rfl rfl rfl rfl (by omega) (by omega) rfl (fun v11=>?_);refine a2Q (fun A11 c11 hv11=>?_);subst hv11;refine go 1 ?_;refine b8u ?_;refine a0p _ he rfl rfl rfl rfl rfl rfl ?_;refine go 2 ?_;refine a0o ?_;refine a0b ?_;refine a1c ?_;refine a0b ?_;refine a0f ?_;refine a0f ?_;refine a1c ?_;refine a1c ?_;exact a9H ((.slice A11 (m.length+1) c11,m++[x])) (hI1) (rfl) (by show _=[Res.blk g2 29 [.slice A11 (m.length+1) c11],Res.row (.slice A11 (m.length+1) c11) 55 2 (m++[x]).length ((m++[x]).flatMap Plc.cells)];rw[List.length_append,List.flatMap_append];rfl)
 ·rintro D pre I1 ⟨v2,m⟩ hI1 hfull rfl;refine c1e ?_;refine go 9 ?_;refine a5m ?_;refine a0s rfl rfl ?_;refine a0b ?_;refine a0b ?_;exact a4I (fun _ m=>m) ⟨m,rfl,hfull⟩
 ·rintro D pre I1 s cd hI1 hpart h;exact h.elim
theorem c1Y (I:IMap) (g:Nat) (Ls:List Plc) (hLs:Ls.length≤1000000) (hit:b6M Tryz.prog 178 [.pointer (some ⟨g,0,none⟩)] I (fun _ vs (x:Plc)=>vs=[.agg x.cells.toArray]) (fun pre _=>pre.length<Ls.length) (fun pre=>pre.Perm Ls) (fun _=>True)) :
    FnH Tryz.prog 176 #[.func (.func 178) #[] #[.pointer (some ⟨g,0,none⟩)]] I [] (fun u J H2=>∃m:List Plc,H2=[.row u 55 2 m.length (m.flatMap Plc.cells)]∧m.Perm Ls):=by
 refine enter Tryz.func176 Tryz.call176 rfl Tryz.ntmps176 rfl (fun w0=>?_);refine go 9 ?_;refine a8K (b6P _ g Ls hLs hit) rfl rfl (fun u4 I4 H4 j4 q4=>?_);obtain⟨m,rfl,hpm⟩:=q4;refine a8T ?_;refine go 4 ?_;refine a0s rfl rfl ?_;exact a4I (fun _ m=>m) ⟨m,rfl,hpm⟩
theorem c3P (I:IMap) (g:Nat) (Ls:List Plc) (hLs:Ls.length≤1000000) (hit:b6M Tryz.prog 178 [.pointer (some ⟨g,0,none⟩)] I (fun _ vs (x:Plc)=>vs=[.agg x.cells.toArray]) (fun pre _=>pre.length<Ls.length) (fun pre=>pre.Perm Ls) (fun _=>True)) :
    FnI Tryz.prog 107 #[.func (.func 178) #[] #[.pointer (some ⟨g,0,none⟩)],.func (.func 55) #[] #[]] I (fun u J=>∃m,RdS J u m∧b6N a8p Ls m):=by
 refine enter Tryz.func107 Tryz.call107 rfl Tryz.ntmps107 rfl (fun w0=>?_);refine go 9 ?_;refine a8K (c1Y _ g Ls hLs hit) rfl rfl (fun u7 I7 H7 j7 q7=>?_);obtain⟨m0,rfl,hpm⟩:=q7
 have hml:=hpm.length_eq
 refine a8T ?_;refine go 8 ?_;refine a1n (c3L _ _ m0 (by omega)) rfl rfl (fun v10 s10 q10=>?_);obtain⟨rfl,m,hsr,rfl⟩:=q10;refine go 9 ?_;refine a0s rfl rfl ?_;refine a0l (l:=m) rfl hsr.1.length_eq.symm (c3g m) (fun I9 j9 R9=>?_);exact q_i ⟨m,R9,b3B hsr hpm⟩
theorem c6h (I:IMap) (S:ItS) (r:Nat) (kvs:List (ByteArray×Value)) (hO0:S.Ok Value.string kvs) (hT0:S.Todo Value.string kvs) (hS0:S.seen=#[]) (g1:Nat) (c1:ICells I g1 0 [.map (some r)]) (hmp:I r=some S.mp) :
    b6M Tryz.prog 189 [.pointer (some ⟨g1,0,none⟩)] I (fun _ vs (x:ByteArray)=>vs=[.string x]) (fun pre _=>pre.length<kvs.length) (fun pre=>pre.Perm (kvs.map Prod.fst)) (fun _=>True):=by
 intro ly J I1 Hc hI1 hJm hY hJ0
 have c1:=c1.le hI1
 have hmp:=(hI1) _ _ hmp
 refine enter Tryz.func189 Tryz.call189 rfl Tryz.ntmps189 rfl (fun w0=>?_);refine go 2 ?_;refine o_v rfl (a0K he rfl (c1 0 _ rfl)) ?_;refine go 1 ?_;refine b5V (a7y hmp) hS0 he rfl rfl (fun i5=>?_);refine go 3 ?_
 refine a5x (S) (kvs) ([]) (I1) (Hc) (fun S2 todo pre I2 Hc=>I2)
  (fun S2 todo pre I2 Hc=>[(0,.func (.yield ly) #[] #[]),(5,.pointer (some ⟨i5,0,none⟩))])
  (fun S2 todo pre I2 Hc=>.any i5 (S2.it r)::Hc)
  (fun S2 todo pre I2 Hc=>ILe I1 I2∧S2.mp=S.mp∧S2.Ok Value.string kvs∧S2.Todo Value.string todo∧(pre++todo.map Prod.fst).Perm (kvs.map Prod.fst)∧J true pre I2 Hc)
  (fun S2 todo pre I2 Hc=>todo.length) ⟨ILe.refl _,rfl,hO0,hT0,.refl _,hJ0⟩ rfl sb rfl ?_
 intro S2 todo pre I2 Hc ⟨hI2,hme,hO,hT,hP,hJ⟩
 have hmp2:I2 r=some S2.mp:=by rw[hme];exact hI2 _ _ hmp
 refine go 3 ?_;refine b9V (a7y hmp2) hO hT rfl rfl (fun q6 S6 t6 hst he6=>?_);refine o_v rfl (a1C rfl (b9N _ _)) ?_;refine go 3 ?_;refine cb rfl (fun h7 p7=>?_) (fun h7 p7=>?_)
 ·obtain⟨e2,a,b,htd,hO1,hT1,hA1,rfl,rfl⟩:=hst.some h7
  have hmp3:I2 r=some S6.mp:=by rw[he6];exact hmp2
  refine go 5 ?_;refine o_v rfl (b6J (a7y hmp3) m0 hO1 hA1 rfl) ?_;refine o_v rfl (OV.cast (u:=.string e2.1) (a1C rfl rfl) rfl) ?_;refine go 8 ?_;refine c2T (e2.1) hY (hJm _ _ _ _ _ (ILe.refl _) hJ) (rfl) ((b5J hP htd)) rfl rfl rfl (fun b12 I12 Hc12 j12 hJ12=>?_);refine go 3 ?_;refine cb rfl (fun h13 p13=>?_) (fun h13 p13=>?_)
  ·have hb12:b12=false:=by simpa using h13
   refine go 4 ?_;refine b8g rfl ?_;refine a0b ?_;subst hb12;exact b8h false _ hJ12 trivial
  ·have hb12:b12=true:=by simpa using h13
   refine go 3 ?_;exact a1T (S6) (a++b) (pre++[e2.1]) (I12) (Hc12) ⟨hI2.trans j12,he6.trans hme,hO1,hT1,b0y hP htd,hb12▸hJ12⟩ (by rw[htd];simp) rfl sb rfl
 ·obtain⟨rfl,rfl,rfl⟩:=hst.none h7;refine go 4 ?_;refine a6E rfl ?_;refine a0b ?_;exact b8h true _ hJ (by simpa using hP)
theorem c8E (I:IMap) (r:Nat) :
    FnI Tryz.prog 117 #[.map (some r)] I (fun u J=>∃g,u = .func (.func 189) #[] #[.pointer (some ⟨g,0,none⟩)]∧ICells J g 0 [.map (some r)]):=by
 refine enter Tryz.func117 Tryz.call117 rfl Tryz.ntmps117 rfl (fun w0=>?_);refine go 3 ?_;refine a0B _ rfl rfl rfl (fun g1=>?_);refine go 5 ?_;refine a1Q (fun Ig1 jg1 cg1=>?_);refine o_v rfl (a1i rfl rfl) ?_;refine go 4 ?_;refine a0s rfl rfl ?_;exact q_i ⟨_,rfl,cg1⟩
theorem b6Q (I:IMap) (g:Nat) (Ls:List ByteArray) (hLs:Ls.length≤1000000) (hit:b6M Tryz.prog 189 [.pointer (some ⟨g,0,none⟩)] I (fun _ vs (x:ByteArray)=>vs=[.string x]) (fun pre _=>pre.length<Ls.length) (fun pre=>pre.Perm Ls) (fun _=>True)) :
    FnH Tryz.prog 239 #[.slice none 0 0,.func (.func 189) #[] #[.pointer (some ⟨g,0,none⟩)]] I [] (fun u J H2=>∃m:List ByteArray,H2=[.row u 9 1 m.length (m.map Value.string)]∧m.Perm Ls):=by
 refine enter Tryz.func239 Tryz.call239 rfl Tryz.ntmps239 rfl (fun w0=>?_);refine go 3 ?_;refine a0B _ rfl rfl rfl (fun g2=>?_);refine go 6 ?_;refine a1f 9 1 ?_;refine go 4 ?_;refine a0f ?_;refine a6s (σ:=Value×List ByteArray) (ps:=[7]) (.slice none 0 0,[]) (fun ⟨v2,m⟩=>[.blk g2 33 [v2],.row v2 9 1 m.length (m.map Value.string)]) (fun pre I ⟨v2,m⟩=>m=pre) (fun _ _ _ _=>False) rfl Tryz.call189 (hit) (fun I vs x h=>by rw[h];rfl) rfl (fun pre I I' s hI h=>by obtain⟨v2,m⟩:=s;exact h) (fun _ _ _ _ _ _ h=>h) (rfl) rfl ?_ ?_ ?_
 ·rintro r E1 pre x vs I1 ⟨v2,m⟩ hI1 rfl rfl hlt;refine c1g ?_;refine go 3 ?_;refine a6A ?_;refine go 5 ?_;refine a0c he he rfl rfl rfl rfl rfl rfl rfl (fun v10=>?_);refine go 1 ?_;refine a0N ?_;refine a0v he he rfl rfl rfl rfl rfl (by omega) (by omega) rfl (fun v11=>?_);refine a2Q (fun A11 c11 hv11=>?_);subst hv11;refine go 1 ?_;refine a0N ?_;refine a0p _ he rfl rfl rfl rfl rfl rfl ?_;refine go 2 ?_;refine a0o ?_;refine a0b ?_;refine a0f ?_;refine a0f ?_;refine a1c ?_;refine a1c ?_;exact a9H ((.slice A11 (m.length+1) c11,m++[x])) (hI1) (rfl) (by show _=[Res.blk g2 33 [.slice A11 (m.length+1) c11],Res.row (.slice A11 (m.length+1) c11) 9 1 (m++[x]).length ((m++[x]).map Value.string)];rw[List.length_append,List.map_append];rfl)
 ·rintro D pre I1 ⟨v2,m⟩ hI1 hfull rfl;refine c1e ?_;refine go 9 ?_;refine a5m ?_;refine a0s rfl rfl ?_;refine a0b ?_;refine a0b ?_;exact a4I (fun _ m=>m) ⟨m,rfl,hfull⟩
 ·rintro D pre I1 s cd hI1 hpart h;exact h.elim
theorem c1Z (I:IMap) (g:Nat) (Ls:List ByteArray) (hLs:Ls.length≤1000000) (hit:b6M Tryz.prog 189 [.pointer (some ⟨g,0,none⟩)] I (fun _ vs (x:ByteArray)=>vs=[.string x]) (fun pre _=>pre.length<Ls.length) (fun pre=>pre.Perm Ls) (fun _=>True)) :
    FnH Tryz.prog 187 #[.func (.func 189) #[] #[.pointer (some ⟨g,0,none⟩)]] I [] (fun u J H2=>∃m:List ByteArray,H2=[.row u 9 1 m.length (m.map Value.string)]∧m.Perm Ls):=by
 refine enter Tryz.func187 Tryz.call187 rfl Tryz.ntmps187 rfl (fun w0=>?_);refine go 9 ?_;refine a8K (b6Q _ g Ls hLs hit) rfl rfl (fun u4 I4 H4 j4 q4=>?_);obtain⟨m,rfl,hpm⟩:=q4;refine a8T ?_;refine go 4 ?_;refine a0s rfl rfl ?_;exact a4I (fun _ m=>m) ⟨m,rfl,hpm⟩
theorem c3Q (I:IMap) (g:Nat) (Ls:List ByteArray) (hLs:Ls.length≤1000000) (hit:b6M Tryz.prog 189 [.pointer (some ⟨g,0,none⟩)] I (fun _ vs (x:ByteArray)=>vs=[.string x]) (fun pre _=>pre.length<Ls.length) (fun pre=>pre.Perm Ls) (fun _=>True)) :
    FnI Tryz.prog 116 #[.func (.func 189) #[] #[.pointer (some ⟨g,0,none⟩)],.func (.func 57) #[] #[]] I (fun u J=>∃m,RdS J u m∧b6N a6m Ls m):=by
 refine enter Tryz.func116 Tryz.call116 rfl Tryz.ntmps116 rfl (fun w0=>?_);refine go 9 ?_;refine a8K (c1Z _ g Ls hLs hit) rfl rfl (fun u7 I7 H7 j7 q7=>?_);obtain⟨m0,rfl,hpm⟩:=q7
 have hml:=hpm.length_eq
 refine a8T ?_;refine go 8 ?_;refine a1n (c3M _ _ m0 (by omega)) rfl rfl (fun v10 s10 q10=>?_);obtain⟨rfl,m,hsr,rfl⟩:=q10;refine go 9 ?_;refine a0s rfl rfl ?_;refine a0l (l:=m) rfl hsr.1.length_eq.symm (c0Z m) (fun I9 j9 R9=>?_);exact q_i ⟨m,R9,b3B hsr hpm⟩
theorem b1F (I:IMap) (v:Value) (l:List Rep) (hv:RdS I v l) (f:FuncId) (cs:List Value) (p:Rep→Bool) (hp:∀x∈l,∀vs,Enc.rd I vs x→FnV Tryz.prog f ([Value.agg vs.toArray]++cs).toArray I (.bool (p x))) :
    FnV Tryz.prog 233 #[v,.func (.func f) #[] cs.toArray] I (.int .i64 (a5f p l)):=by
 obtain⟨A,c,rfl,hA,hc,hm⟩:=hv;refine enter Tryz.func233 Tryz.call233 rfl Tryz.ntmps233 rfl (fun w0=>?_);refine go 14 ?_
 refine a0Q (α:=Nat) 0 (fun i=>I)
  (fun i=>[(0,.slice A l.length c),(1,.func (.func f) #[] cs.toArray),(7,.int .i64 (l.length:Int)),(8,.int .i64 (i:Int))])
  (fun i=>[])
  (fun i=>i≤l.length∧∀j x,j<i→l[j]? = some x→p x=false)
  (fun i=>l.length-i) ⟨Nat.zero_le _,fun j x hj=>absurd hj (Nat.not_lt_zero j)⟩ rfl sb rfl ?_
 intro i ⟨hi,hn⟩;refine go 6 ?_;refine cb rfl (fun h9 p9=>?_) (fun h9 p9=>?_)
 ·have hlt:i<l.length:=by omega
  refine go 15 ?_;obtain⟨b14,o14,w14,e14,c14,r14⟩:=RdA.at_ hA (i:=i) hlt;refine o_v rfl (a0h he rfl rfl e14 (i) (by omega) hlt) ?_;refine o_v rfl (a0G he rfl c14 (Enc.len r14)) ?_;refine go 1 ?_;refine a0d (hp _ (List.getElem_mem hlt) _ r14) rfl rfl ?_;refine go 2 ?_;refine cb rfl (fun h16 p16=>?_) (fun h16 p16=>?_)
  ·refine go 12 ?_;refine a0s rfl rfl ?_;exact q_v (congrArg (Value.int .i64) (a3w hlt p16 hn).symm)
  ·refine go 8 ?_;exact a0M (i+1) ⟨by omega,a2V hn hlt p16⟩ (by omega) rfl sb rfl
 ·refine go 11 ?_;refine a0s rfl rfl ?_;exact q_v (congrArg (Value.int .i64) (a4e (fun j x hj=>hn j x (by omega))).symm)
theorem a8q (I:IMap) (v:Value) (l:List Rep) (hv:RdS I v l) (f:FuncId) (cs:List Value) (p:Rep→Bool) (hp:∀x∈l,∀vs,Enc.rd I vs x→FnV Tryz.prog f ([Value.agg vs.toArray]++cs).toArray I (.bool (p x))) :
    FnV Tryz.prog 173 #[v,.func (.func f) #[] cs.toArray] I (.bool (l.any p)):=by
 refine enter Tryz.func173 Tryz.call173 rfl Tryz.ntmps173 rfl (fun w0=>?_);refine go 10 ?_;refine a0d (b1F I v l hv f cs p hp) rfl rfl ?_;refine go 5 ?_;refine a0s rfl rfl ?_;exact q_v (congrArg Value.bool (a6a p l))
theorem d0u (I:IMap) (r:Rep) (vs:List Value) (h:Enc.rd I vs r) (hs:∀e∈r.options,SmE e) :
    FnV Tryz.prog 174 #[.agg vs.toArray] I (.bool (!a0w r)):=by
 obtain⟨s,rfl,hr0⟩:=h
 have hr1:=hr0
 obtain⟨S,d,rfl,_⟩:=hr1
 have hr:=hr0
 refine enter Tryz.func174 Tryz.call174 rfl Tryz.ntmps174 rfl (fun w0=>?_);refine go 3 ?_;refine a0B _ rfl rfl rfl (fun g1=>?_);refine go 7 ?_;refine a0d (b2g _ r S d hr hs) rfl rfl ?_;refine go 5 ?_;refine a0s rfl rfl ?_;exact q_v rfl
theorem d0L (I:IMap) (vc:Value) (c:List Kind) (hvc:RdS I vc c) (hsc:SmC c) (w:Value) (own:List Rep) (hw:RdS I w own) (how:own.length≤1000000) (hso:∀r∈own,∀e∈r.options,SmE e) (a:Value) (all:List (List Int)) (ha:RdS I a all) (p:ByteArray) (day:Int) (ga gw gc gd gp:Nat) (ka:ICells I ga 0 [a]) (kw:ICells I gw 0 [w]) (kc:ICells I gc 0 [vc]) (kd:ICells I gd 0 [.int .i64 (day)]) (kp:ICells I gp 0 [.string p]) :
    b6M Tryz.prog 175 [.pointer (some ⟨ga,0,none⟩),.pointer (some ⟨gw,0,none⟩),.pointer (some ⟨gc,0,none⟩),.pointer (some ⟨gd,0,none⟩),.pointer (some ⟨gp,0,none⟩)] I (fun I vs (s:List Part)=>∃w,vs=[.agg #[w]]∧RdS I w s) (fun _ _=>True) (fun pre=>pre=a7u c own p day all) (fun _=>True):=by
 obtain⟨AA,ca,rfl,hAA,hca,hma⟩:=ha;intro ly J I1 Hc hI1 hJm hY hJ0
 have hvc:=hvc.le hI1
 have hw:=hw.le hI1
 have hAA:=hAA.le hI1
 have ka:=ka.le hI1
 have kw:=kw.le hI1
 have kc:=kc.le hI1
 have kd:=kd.le hI1
 have kp:=kp.le hI1
 refine enter Tryz.func175 Tryz.call175 rfl Tryz.ntmps175 rfl (fun w0=>?_);refine go 2 ?_;refine o_v rfl (a0K he rfl (ka 0 _ rfl)) ?_;refine go 5 ?_
 refine a3B ((0:Nat)) ([]) (I1) (Hc) (fun i pre I2 Hc=>I2)
  (fun i pre I2 Hc=>[(0,.func (.yield ly) #[] #[]),(1,.pointer (some ⟨ga,0,none⟩)),(2,.pointer (some ⟨gw,0,none⟩)),(3,.pointer (some ⟨gc,0,none⟩)),(4,.pointer (some ⟨gd,0,none⟩)),(5,.pointer (some ⟨gp,0,none⟩)),(16,.slice AA all.length ca),(17,.int .i64 ((all.length:Nat):Int)),(18,.int .i64 ((i:Nat):Int))])
  (fun i pre I2 Hc=>Hc)
  (fun i pre I2 Hc=>i≤all.length∧ILe I1 I2∧pre=(a7u c own p day (all.take i))∧J true pre I2 Hc)
  (fun i pre I2 Hc=>all.length-i) ⟨Nat.zero_le _,ILe.refl _,rfl,hJ0⟩ rfl sb rfl ?_
 intro i pre I2 Hc ⟨hi,hI2,hpre,hJ⟩
 have hvc:=hvc.le hI2
 have hw:=hw.le hI2
 have hAA:=hAA.le hI2
 have ka:=ka.le hI2
 have kw:=kw.le hI2
 have kc:=kc.le hI2
 have kd:=kd.le hI2
 have kp:=kp.le hI2
 refine go 6 ?_;refine cb rfl (fun h19 p19=>?_) (fun h19 p19=>?_)
 ·have hlt:i<all.length:=by omega
  refine go 6 ?_;obtain⟨b20,o20,w20,e20,c20,r20⟩:=RdA.at_ hAA (i:=i) (by omega);obtain⟨q20,rfl,S20,d20,rfl,hS20,hd20,hm20⟩:=r20;refine o_v rfl (a0h he rfl rfl e20 (i) (by omega) (by omega)) ?_;refine o_v rfl (a0K he rfl (c20 0 _ rfl)) ?_;refine go 5 ?_;refine o_v rfl (a0K he rfl (kw 0 _ rfl)) ?_;refine go 2 ?_;refine a0O (c0B _ _ own hw how hso _ all[i] ⟨_,_,rfl,hS20,hd20,hm20⟩) rfl rfl (fun v25 I25 j25 q25=>?_)
  try have hvc:=hvc.le j25
  try have hw:=hw.le j25
  try have hAA:=hAA.le j25
  try have ka:=ka.le j25
  try have kw:=kw.le j25
  try have kc:=kc.le j25
  try have kd:=kd.le j25
  try have kp:=kp.le j25
  try have hz25:=hz25.le j25
  try have hwb:=hwb.le j25
  have hJ:=hJm _ _ _ _ _ j25 hJ
  obtain⟨z25,rfl,hz25⟩:=q25;refine go 9 ?_;refine o_v rfl (a0G he rfl kc rfl) ?_;refine go 1 ?_;refine o_v rfl (a0K he rfl (kd 0 _ rfl)) ?_;refine go 1 ?_;refine a0O (cAt _ vc c hvc hsc _ (a1L own all[i]).1 hz25 (Nat.le_trans (a9D own all[i]) how) (a9E hso) day) rfl rfl (fun v32 I32 j32 q32=>?_)
  try have hvc:=hvc.le j32
  try have hw:=hw.le j32
  try have hAA:=hAA.le j32
  try have ka:=ka.le j32
  try have kw:=kw.le j32
  try have kc:=kc.le j32
  try have kd:=kd.le j32
  try have kp:=kp.le j32
  try have hz25:=hz25.le j32
  try have hwb:=hwb.le j32
  have hJ:=hJm _ _ _ _ _ j32 hJ
  obtain⟨wb,rfl,hwb⟩:=q32;refine go 5 ?_;refine a0j he rfl (fun g11=>?_);refine go 1 ?_;refine a0p _ he rfl rfl rfl rfl rfl (by simp[RdS.one hwb]) ?_;refine go 7 ?_;refine o_v rfl (a0K he rfl (kp 0 _ rfl)) ?_;refine go 1 ?_;refine a2p (c4K _ _ _ hwb p) rfl rfl (fun v39 q39=>?_);obtain⟨vs39,rfl,s39,rfl,hs39⟩:=q39;refine go 4 ?_;refine a0j he rfl (fun g14=>?_);refine go 1 ?_;refine a0p _ he rfl rfl rfl rfl rfl (Enc.one (α:=Part) (x:=(a0E (b1p c own day all[i]) p).getD zPart) ⟨s39,rfl,hs39⟩) ?_;refine go 7 ?_;refine sxb 43 rfl (fun h43 p43=>?_) (fun h43 p43=>?_)
  ·refine go 3 ?_;refine a0R rfl rfl h43 (a8L ((b1p c own day all[i])) hY (hJm _ _ _ _ _ (ILe.refl _) hJ) (⟨_,rfl,hwb⟩) (trivial) rfl rfl rfl (fun b46 I46 Hc46 j46 hJ46=>?_));refine go 4 ?_;refine cb rfl (fun h48 p48=>?_) (fun h48 p48=>?_)
   ·have hb46:b46=false:=by simpa using h48
    refine go 5 ?_;refine b8g rfl ?_;refine a0b ?_;refine a0b ?_;subst hb46;exact b8h false _ hJ46 trivial
   ·have hb46:b46=true:=by simpa using h48
    refine go 8 ?_;refine a0b ?_;refine a0b ?_;exact a1N (i+1) (pre++[(b1p c own day all[i])]) (I46) (Hc46) ⟨by omega,hI2.trans (j25.trans (j32.trans j46)),by rw[a9e hlt h43,hpre],hb46▸hJ46⟩ (by omega) rfl sb rfl
  ·refine go 7 ?_;refine a0T rfl ?_;refine go 8 ?_;refine a0b ?_;refine a0b ?_;exact a1N (i+1) (pre) (_) (Hc) ⟨by omega,hI2.trans (j25.trans j32),by rw[b1o hlt h43,←hpre],hJ⟩ (by omega) rfl sb rfl
 ·have e:i=all.length:=by omega
  subst e;rw[List.take_length]at hpre
  refine go 4 ?_;refine a6E rfl ?_;exact b8h true _ hJ hpre
theorem c0k (I:IMap) (vc:Value) (c:List Kind) (hvc:RdS I vc c) (hsc:SmC c) (v:Value) (l:List Rep) (hv:RdS I v l) (hl:l.length≤1000000) (hsl:∀r∈l,∀e∈r.options,SmE e) (R:Nat→Nat) (hRt:Rts l R) (p:ByteArray) (day:Int)  :
    FnI Tryz.prog 106 #[.agg #[vc],v,.string p,.int .i64 (day)] I (fun u J=>∃Fv,u = .tuple #[Fv,.int .i64 (a6h c l (a1V l R p))]∧((a6h c l (a1V l R p))=0→∃a w ga gw gc gd gp,Fv = .func (.func 175) #[] #[.pointer (some ⟨ga,0,none⟩),.pointer (some ⟨gw,0,none⟩),.pointer (some ⟨gc,0,none⟩),.pointer (some ⟨gd,0,none⟩),.pointer (some ⟨gp,0,none⟩)]∧RdS J a (a2m c (a1V l R p) 4096).1∧RdS J w (a1V l R p)∧ICells J ga 0 [a]∧ICells J gw 0 [w]∧ICells J gc 0 [vc]∧ICells J gd 0 [.int .i64 (day)]∧ICells J gp 0 [.string p])):=by
 have hv0:=hv
 obtain⟨A,c0,rfl,hA,hc,hm⟩:=hv;refine enter Tryz.func106 Tryz.call106 rfl Tryz.ntmps106 rfl (fun w0=>?_);refine go 3 ?_;refine a0B _ rfl rfl rfl (fun g4=>?_);refine go 1 ?_;refine a0B _ rfl rfl rfl (fun g6=>?_);refine go 1 ?_;refine a0B _ rfl rfl rfl (fun g7=>?_);refine go 9 ?_;refine a0d (a6L _ vc c hvc hsc) rfl rfl ?_;refine go 2 ?_;refine sxb 18 rfl (fun h18 p18=>?_) (fun h18 p18=>?_)
 ·refine go 5 ?_;refine a2M rfl ?_;refine go 8 ?_;refine a1F rfl rfl rfl ?_
  have e:=c4B (l:=l) (own:=(a1V l R p)) (show a1g c=false by simpa using h18)
  exact q_i ⟨_,by rw[e],fun h=>by rw[e]at h;cases h⟩
 ·refine go 2 ?_;refine a0R rfl rfl h18 (a0d (a8q _ _ l hv0 _ [] (fun r=>!a0w r) (fun x hx vs h=>d0u _ x vs h (hsl x hx))) rfl rfl ?_);refine go 3 ?_;refine cb rfl (fun h21 p21=>?_) (fun h21 p21=>?_)
  ·refine go 8 ?_;refine a1F rfl rfl rfl ?_
   have e:=c4C (own:=(a1V l R p)) (show a1g c=true by simpa using h18) h21
   exact q_i ⟨_,by rw[e],fun h=>by rw[e]at h;cases h⟩
  ·have hC:a1g c=true:=by simpa using h18
   refine go 5 ?_;refine a0j he rfl (fun g10=>?_);refine go 8 ?_;refine a0O (c8F _ _ l hv0 hl hsl p R hRt) rfl rfl (fun v24 I24 j24 q24=>?_)
   try have hvc:=hvc.le j24
   try have hv0:=hv0.le j24
   try have hA:=hA.le j24
   obtain⟨CA,cc,rfl,hCA,hcc,hcm⟩:=q24;rw[a4S]at hcc ⊢
   refine go 1 ?_;refine a1f 64 2 ?_;refine go 4 ?_;refine a0o ?_;refine a1c ?_;refine a0N ?_;refine a0N ?_;refine a0N ?_
   refine a3B ((0:Nat)) (none) (0) ([]) (fun i A10 c10 xs=>I24)
    (fun i A10 c10 xs=>[(4,.pointer (some ⟨g4,0,none⟩)),(6,.pointer (some ⟨g6,0,none⟩)),(7,.pointer (some ⟨g7,0,none⟩)),(10,.pointer (some ⟨g10,0,none⟩)),(1,.slice A l.length c0),(24,.slice CA (ofN l R p).length cc),(25,.int .i64 (((ofN l R p).length:Nat):Int)),(26,.int .i64 ((i:Nat):Int))])
    (fun i A10 c10 xs=>[.row (.slice A10 i c10) 64 2 i xs,.blk g10 25 [.slice A10 i c10],.blk g4 24 [vc],.blk g6 9 [.string p],.blk g7 3 [.int .i64 (day)]])
    (fun i A10 c10 xs=>i≤(ofN l R p).length∧Flat I24 xs (a4O l ((ofN l R p).take i)))
    (fun i A10 c10 xs=>(ofN l R p).length-i) ⟨Nat.zero_le _,.nil⟩ rfl sb rfl ?_
   intro i A10 c10 xs ⟨hi,hF⟩;refine go 6 ?_;refine cb rfl (fun h27 p27=>?_) (fun h27 p27=>?_)
   ·have hlt:i<(ofN l R p).length:=by omega
    have hcl:(ofN l R p)[i]<l.length:=b7v (List.getElem_mem hlt)
    have hcl2:=a6x (l:=l) (R:=R) (p:=p)
    have hcl3:(a1V l R p).length=(ofN l R p).length:=a5k fun i hi=>b7v hi
    refine go 6 ?_;obtain⟨b28,o28,w28,e28,c28,r28⟩:=RdA.at_ hCA (i:=i) (by first|exact hlt|(rw[a4S];exact hlt));rw[c6n hlt]at r28
    obtain rfl:=r28;refine o_v rfl (a0h he rfl rfl e28 (i) (by omega) (by first|exact hlt|(rw[a4S];exact hlt))) ?_;refine o_v rfl (a0K he rfl (c28 0 _ rfl)) ?_;refine go 3 ?_;refine a0f ?_;refine a0f ?_;refine a8A T.mixed ?_;refine a0e 1 rfl rfl (by kernel_rfl) rfl (.cons _ (.cons _ (.refl _))) rfl (a0a rfl) ?_;refine a0e 2 rfl rfl (by kernel_rfl) rfl (.cons _ (.cons _ (.refl _))) rfl (a0a rfl) ?_;obtain⟨b33,o33,w33,e33,c33,r33⟩:=RdA.at_ hA (i:=(ofN l R p)[i]) hcl;obtain⟨q33,rfl,S33,d33,rfl,hS33,hd33,hm33⟩:=r33;refine a0e 3 rfl rfl (by kernel_rfl) rfl (.cons _ (.cons _ (.refl _))) rfl (a0h he rfl rfl e33 ((ofN l R p)[i]) (by omega) hcl) ?_;refine a0e 4 rfl rfl (by kernel_rfl) rfl (.cons _ (.cons _ (.refl _))) rfl (a0G he rfl c33 rfl) ?_;refine a3O 0 5 (by kernel_rfl) rfl rfl ?_ ?_
    ·refine a0t rfl (a2H m1 he rfl rfl) ?_;refine a0D (fun _ m=>m.keeps (.cons _ (.cons _ (.refl _)))) ?_;refine a0m 5 (by kernel_rfl) rfl ?_;refine a0c he he rfl rfl rfl rfl rfl rfl rfl (fun v35=>?_);refine a0D (fun _ m=>m.keeps (.cons _ (.cons _ (.cons _ (.refl _))))) ?_;refine a0m 6 (by kernel_rfl) rfl ?_;refine a0f ?_;refine a0v he he rfl rfl rfl rfl rfl (by omega) (by omega) rfl (fun v36=>?_);refine a2Q (fun A36 c36 hv36=>?_);subst hv36;refine a0D (fun _ m=>m.keeps (.cons _ (.cons _ (.cons _ (.refl _))))) ?_;refine a0m 7 (by kernel_rfl) rfl ?_;refine a0o ?_;refine a0p _ he rfl rfl rfl rfl rfl rfl ?_;refine a0D (fun _ m=>m.keeps (.cons _ (.cons _ (.cons _ (.refl _))))) ?_;refine a0n (by kernel_rfl) ?_;refine go 7 ?_;refine a0o ?_;refine a0b ?_;refine a0N ?_;refine a0N ?_;refine a0N ?_;refine a1c ?_;refine a0N ?_;exact a1N (i+1) (_) (_) (_) ⟨by omega,by rw[b3i hlt hcl];exact hF.append (.one ⟨_,rfl,⟨_,_,rfl,hS33,hd33,hm33⟩⟩)⟩ (by omega) rfl sb rfl
    ·refine a0c he he rfl rfl rfl rfl rfl rfl rfl (fun v35=>?_);refine a0D (fun _ m=>m.keeps (.cons _ (.cons _ (.cons _ (.refl _))))) ?_;refine a0m 0 (by kernel_rfl) rfl ?_;refine a0t rfl (a2H m2 he rfl rfl) ?_;refine a0D (fun _ m=>m.keeps (.cons _ (.cons _ (.cons _ (.refl _))))) ?_;refine a0m 6 (by kernel_rfl) rfl ?_;refine a0f ?_;refine a0v he he rfl rfl rfl rfl rfl (by omega) (by omega) rfl (fun v36=>?_);refine a2Q (fun A36 c36 hv36=>?_);subst hv36;refine a0D (fun _ m=>m.keeps (.cons _ (.cons _ (.cons _ (.refl _))))) ?_;refine a0m 7 (by kernel_rfl) rfl ?_;refine a0o ?_;refine a0p _ he rfl rfl rfl rfl rfl rfl ?_;refine a0D (fun _ m=>m.keeps (.cons _ (.cons _ (.cons _ (.refl _))))) ?_;refine a0n (by kernel_rfl) ?_;refine go 7 ?_;refine a0o ?_;refine a0b ?_;refine a0N ?_;refine a0N ?_;refine a0N ?_;refine a1c ?_;refine a0N ?_;exact a1N (i+1) (_) (_) (_) ⟨by omega,by rw[b3i hlt hcl];exact hF.append (.one ⟨_,rfl,⟨_,_,rfl,hS33,hd33,hm33⟩⟩)⟩ (by omega) rfl sb rfl
   ·obtain rfl:i=(ofN l R p).length:=by omega
    rw[List.take_length]at hF
    have hcl2:=a6x (l:=l) (R:=R) (p:=p)
    have hcl3:(a1V l R p).length=(ofN l R p).length:=a5k fun i hi=>b7v hi
    refine a0l (l:=(a1V l R p)) rfl hcl3.symm hF (fun I9 j9 Ro=>?_)
    have hvc:=hvc.le j9
    have hv0:=hv0.le j9
    refine go 13 ?_;refine cb rfl (fun h40 p40=>?_) (fun h40 p40=>?_)
    ·refine go 8 ?_;refine a1F rfl rfl rfl ?_
     have e:=c4D (own:=(a1V l R p)) hC h21 (List.eq_nil_of_length_eq_zero (by rw[hcl3];omega))
     exact q_i ⟨_,by rw[e],fun h=>by rw[e]at h;cases h⟩
    ·have hne:(a1V l R p)≠[]:=fun e=>by rw[e]at hcl3;simp at hcl3;omega
     have hce:=c4E (own:=(a1V l R p)) hC h21 hne
     refine go 7 ?_;refine a0O (d0C _ vc c hvc hsc _ (a1V l R p) Ro (Nat.le_trans hcl2 hl) (fun r hr=>hsl r (a7O hr)) 4096) rfl rfl (fun v44 I44 j44 q44=>?_)
     try have hvc:=hvc.le j44
     try have hv0:=hv0.le j44
     try have hA:=hA.le j44
     try have Ro:=Ro.le j44
     try have hw44:=hw44.le j44
     obtain⟨w44,rfl,hw44⟩:=q44
     have hw44s:=hw44
     obtain⟨A44,c44,rfl,_,_,_⟩:=hw44s;refine go 4 ?_;refine a0j he rfl (fun g13=>?_);refine go 1 ?_;refine a0p _ he rfl rfl rfl rfl rfl rfl ?_;refine go 4 ?_;refine a2I (I':=I44) (L':=[(4,.pointer (some ⟨g4,0,none⟩)),(6,.pointer (some ⟨g6,0,none⟩)),(7,.pointer (some ⟨g7,0,none⟩)),(10,.pointer (some ⟨g10,0,none⟩)),(13,.pointer (some ⟨g13,0,none⟩)),(14,.int .i64 (a6h c l (a1V l R p)))]) (H':=[.blk g13 112 [.slice A44 (a2m c (a1V l R p) 4096).1.length c44],.blk g10 25 [.slice A10 (ofN l R p).length c10],.blk g4 24 [vc],.blk g6 9 [.string p],.blk g7 3 [.int .i64 (day)]]) ?_ ?_
     ·refine go 5 ?_;refine sxb 49 rfl (fun h49 p49=>?_) (fun h49 p49=>?_)
      ·refine go 6 ?_;refine cb rfl (fun h53 p53=>?_) (fun h53 p53=>?_)
       ·refine go 4 ?_;exact a0L ⟨rfl,rfl,rfl,rfl,rfl,(congrArg (fun n:Int=>some (Value.int .i64 n)) (by rw[hce];first|rw[if_pos (by simpa using h49)] | rw[if_neg (by simpa using h49),if_pos (by omega)] | (rw[if_neg (by simpa using h49),if_neg (by omega)];simpa using h49))),trivial⟩ rfl rfl
       ·refine go 2 ?_;exact a0L ⟨rfl,rfl,rfl,rfl,rfl,(congrArg (fun n:Int=>some (Value.int .i64 n)) (by rw[hce];first|rw[if_pos (by simpa using h49)] | rw[if_neg (by simpa using h49),if_pos (by omega)] | (rw[if_neg (by simpa using h49),if_neg (by omega)];simpa using h49))),trivial⟩ rfl rfl
      ·refine go 6 ?_;refine a0T rfl ?_;refine go 2 ?_;exact a0L ⟨rfl,rfl,rfl,rfl,rfl,(congrArg (fun n:Int=>some (Value.int .i64 n)) (by rw[hce];first|rw[if_pos (by simpa using h49)] | rw[if_neg (by simpa using h49),if_pos (by omega)] | (rw[if_neg (by simpa using h49),if_neg (by omega)];simpa using h49))),trivial⟩ rfl rfl
     ·refine go 7 ?_;refine cb rfl (fun h55 p55=>?_) (fun h55 p55=>?_)
      ·refine go 9 ?_;refine a1F rfl rfl rfl ?_;exact q_i ⟨_,rfl,fun h=>absurd h p55⟩
      ·have h0:(a6h c l (a1V l R p))=0:=by simpa using h55
       refine go 4 ?_;refine a1Q (fun Ig13 jg13 cg13=>?_)
       have Ro:=Ro.le jg13
       have hw44:=hw44.le jg13
       refine a1Q (fun Ig10 jg10 cg10=>?_)
       have Ro:=Ro.le jg10
       have hw44:=hw44.le jg10
       have cg13:=cg13.le jg10
       refine a1Q (fun Ig4 jg4 cg4=>?_)
       have Ro:=Ro.le jg4
       have hw44:=hw44.le jg4
       have cg13:=cg13.le jg4
       have cg10:=cg10.le jg4
       refine a0f ?_;refine a1Q (fun Ig7 jg7 cg7=>?_)
       have Ro:=Ro.le jg7
       have hw44:=hw44.le jg7
       have cg13:=cg13.le jg7
       have cg10:=cg10.le jg7
       have cg4:=cg4.le jg7
       refine a1Q (fun Ig6 jg6 cg6=>?_)
       have Ro:=Ro.le jg6
       have hw44:=hw44.le jg6
       have cg13:=cg13.le jg6
       have cg10:=cg10.le jg6
       have cg4:=cg4.le jg6
       have cg7:=cg7.le jg6
       refine o_v rfl (a1i rfl rfl) ?_;refine go 5 ?_;refine a1F rfl rfl rfl ?_;exact q_i ⟨_,by rw[h0],fun _=>⟨_,_,g13,g10,g4,g7,g6,rfl,hw44,Ro,cg13,cg10,cg4,cg7,cg6⟩⟩
theorem c3f (I:IMap) (vc:Value) (c:List Kind) (hvc:RdS I vc c) (hsc:SmC c) (v:Value) (l:List Rep) (hv:RdS I v l) (hl:l.length≤1000000) (hsl:∀r∈l,∀e∈r.options,SmE e) (R:Nat→Nat) (hRt:Rts l R) (p:ByteArray) (day:Int) (F:FuncId) (cs:List Value) (f:List Part→Plc) (hsh:∀J,ILe I J→∀w s,RdS J w s→FnV Tryz.prog F ([Value.agg #[w]]++cs).toArray J (.agg (f s).cells.toArray)) :
    FnI Tryz.prog 53 #[.agg #[vc],v,.string p,.int .i64 (day),.func (.func F) #[] cs.toArray,.func (.func 55) #[] #[]] I (fun u J=>∃w,u = .tuple #[w,.int .i64 (a7V a2h f c l (a1V l R p) p day).2]∧RdS J w (a7V a2h f c l (a1V l R p) p day).1):=by
 refine enter Tryz.func53 Tryz.call53 rfl Tryz.ntmps53 rfl (fun w0=>?_);refine go 3 ?_;refine a0B _ rfl rfl rfl (fun g6=>?_);refine go 1 ?_;refine a0B _ rfl rfl rfl (fun g10=>?_);refine go 11 ?_;refine a0O (c0k _ vc c hvc hsc v l hv hl hsl R hRt p day) rfl rfl (fun v23 I23 j23 q23=>?_)
 try have hvc:=hvc.le j23
 obtain⟨F23,rfl,hF23⟩:=q23;refine go 14 ?_;refine cb rfl (fun h27 p27=>?_) (fun h27 p27=>?_)
 ·refine go 9 ?_;refine a1F rfl rfl rfl ?_;exact q_i ⟨_,by rw[b6w p27];rfl,by rw[b6w p27];exact RdS.nil'⟩
 ·have h0:(a6h c l (a1V l R p))=0:=by simpa using h27
  obtain⟨a,w2,ga,gw,gc,gd,gp,rfl,ra,rw2,ka,kw,kc,kd,kp⟩:=hF23 h0;refine go 5 ?_;refine a7h (a9i) he rfl (fun r29=>?_);refine go 1 ?_;refine a0j he rfl (fun g16=>?_);refine go 1 ?_;refine a0p _ he rfl rfl rfl rfl rfl rfl ?_;refine go 9 ?_;refine a0o ?_;refine a0o ?_;refine a0o ?_;refine a6s (σ:=List (Plc×Value)) (ps:=[31]) [] (fun kvs=>[.blk g16 178 [.map (some r29)],.mp r29 (a2E a9i kvs),.blk g10 103 [.func (.func F) #[] cs.toArray]]) (fun pre I kvs=>KeysG kvs (pre.map f)) (fun _ _ _ _=>False) rfl Tryz.call175 (d0L _ vc c hvc hsc w2 (a1V l R p) rw2 (Nat.le_trans a6x hl) (fun r hr=>hsl r (a7O hr)) a (a2m c (a1V l R p) 4096).1 ra p day ga gw gc gd gp ka kw kc kd kp) (fun I vs x h=>by obtain⟨w,rfl,_⟩:=h;rfl) rfl (fun pre I I' s hI h=>h) (fun _ _ _ _ _ _ h=>h) (KeysG.nil) rfl ?_ ?_ ?_
  ·rintro r E1 pre s vs I1 kvs hI1 hK ⟨w,rfl,hw⟩ _;refine b4X ?_;refine go 2 ?_;refine a0j he rfl (fun g17=>?_);refine go 1 ?_;refine a0p _ he rfl rfl rfl rfl rfl (by simp[RdS.one hw]) ?_;refine go 1 ?_;refine a0f ?_;refine a6A ?_;refine go 1 ?_;refine a0N ?_;refine a1I T.mixed ?_;refine a0e 0 rfl rfl (by kernel_rfl) rfl (.cons _ (.refl _)) rfl (a2H m3 he rfl rfl) ?_;refine a0e 1 rfl rfl (by kernel_rfl) rfl (.cons _ (.refl _)) rfl (a2H m4 he rfl rfl) ?_;refine a0e 2 rfl rfl (by kernel_rfl) rfl (.cons _ (.refl _)) rfl (a3U m1 he rfl rfl) ?_;refine a0m 3 (by kernel_rfl) rfl ?_;refine a0d (hsh _ (j23.trans hI1) w s hw) rfl rfl ?_;refine a0D (fun _ m=>m.keeps (.cons _ (.refl _))) ?_;refine a0m 4 (by kernel_rfl) rfl ?_;refine a4w (a5D kvs (f s) (.bool true)) (c8C) he (f s) rfl rfl rfl (rfl) ?_;refine a0D (fun _ m=>m.keeps (.cons _ (.refl _))) ?_;refine a0n (by kernel_rfl) ?_;refine go 1 ?_;refine a0o ?_;refine a0b ?_;refine a0N ?_;refine a0f ?_;refine a0N ?_;refine a0N ?_;refine a0N ?_;exact a9H ((a5D kvs (f s) (.bool true))) (hI1) ((by rw[List.map_append];exact hK.put)) rfl
  ·rintro D pre I1 kvs hI1 rfl hK;rw[b2I]at hK
   have hkl:=hK.len
   rw[List.length_map]at hkl
   have hkc:=b1n (c:=c) (own:=(a1V l R p)) (p:=p) (day:=day)
   refine b2s ?_;refine go 6 ?_;refine o_v rfl (b3N m2 he rfl) ?_;refine go 3 ?_;refine cb rfl (fun h38 p38=>?_) (fun h38 p38=>?_)
   ·refine go 8 ?_;refine a5m ?_;refine a1F rfl rfl rfl ?_
    have hz:a9d c (a1V l R p) p day=[]:=by
      have h1:kvs.length=0:=by simpa[a2E]using p38
      simpa using hK.zero_iff.1 h1
    exact q_i ⟨_,by rw[b2l h0 hz],by rw[b2l h0 hz];exact RdS.nil'⟩
   ·have hnz:a9d c (a1V l R p) p day≠[]:=fun e=>by
      rw[e]at hK
      have h1:=hK.zero_iff.2 rfl
      exact p38 (by simp[a2E,h1])
    refine a0o ?_;refine b0X (fun S1 hO2 hT2 hS2=>?_);refine b3G (fun I8 j8 hmp=>?_);refine go 6 ?_;refine a0O (c8D _ r29) rfl rfl (fun v40 I40 j40 q40=>?_);obtain⟨g40,rfl,cg40⟩:=q40;refine go 2 ?_;refine a0O (c3P _ g40 (kvs.map Prod.fst) (by rw[List.length_map];omega) (by rw[List.length_map];exact c6g _ S1 r29 kvs hO2 hT2 hS2 g40 cg40 (j40 _ _ hmp))) rfl rfl (fun v42 I42 j42 q42=>?_);obtain⟨m,q42,hsr⟩:=q42;refine go 5 ?_;refine a5m ?_;refine a1F rfl rfl rfl ?_
    have e:=c0Q hK hsr
    exact q_i ⟨_,by rw[b6x h0 hnz],by rw[b6x h0 hnz,←e];exact q42⟩
  ·rintro D pre I1 s cd hI1 hpart h;exact h.elim
theorem b6d (I:IMap) (vc:Value) (c:List Kind) (hvc:RdS I vc c) (hsc:SmC c) (v:Value) (l:List Rep) (hv:RdS I v l) (hl:l.length≤1000000) (hsl:∀r∈l,∀e∈r.options,SmE e) (R:Nat→Nat) (hRt:Rts l R) (p:ByteArray) (day:Int) (F:FuncId) (cs:List Value) (f:List Part→ByteArray) (hsh:∀J,ILe I J→∀w s,RdS J w s→FnV Tryz.prog F ([Value.agg #[w]]++cs).toArray J (.string (f s))) :
    FnI Tryz.prog 61 #[.agg #[vc],v,.string p,.int .i64 (day),.func (.func F) #[] cs.toArray,.func (.func 57) #[] #[]] I (fun u J=>∃w,u = .tuple #[w,.int .i64 (a7V sLt f c l (a1V l R p) p day).2]∧RdS J w (a7V sLt f c l (a1V l R p) p day).1):=by
 refine enter Tryz.func61 Tryz.call61 rfl Tryz.ntmps61 rfl (fun w0=>?_);refine go 3 ?_;refine a0B _ rfl rfl rfl (fun g6=>?_);refine go 1 ?_;refine a0B _ rfl rfl rfl (fun g10=>?_);refine go 11 ?_;refine a0O (c0k _ vc c hvc hsc v l hv hl hsl R hRt p day) rfl rfl (fun v23 I23 j23 q23=>?_)
 try have hvc:=hvc.le j23
 obtain⟨F23,rfl,hF23⟩:=q23;refine go 14 ?_;refine cb rfl (fun h27 p27=>?_) (fun h27 p27=>?_)
 ·refine go 9 ?_;refine a1F rfl rfl rfl ?_;exact q_i ⟨_,by rw[b6w p27];rfl,by rw[b6w p27];exact RdS.nil'⟩
 ·have h0:(a6h c l (a1V l R p))=0:=by simpa using h27
  obtain⟨a,w2,ga,gw,gc,gd,gp,rfl,ra,rw2,ka,kw,kc,kd,kp⟩:=hF23 h0;refine go 5 ?_;refine a7h (Value.string) he rfl (fun r29=>?_);refine go 1 ?_;refine a0j he rfl (fun g16=>?_);refine go 1 ?_;refine a0p _ he rfl rfl rfl rfl rfl rfl ?_;refine go 9 ?_;refine a0o ?_;refine a0o ?_;refine a0o ?_;refine a6s (σ:=List (ByteArray×Value)) (ps:=[31]) [] (fun kvs=>[.blk g16 184 [.map (some r29)],.mp r29 (a2E Value.string kvs),.blk g10 111 [.func (.func F) #[] cs.toArray]]) (fun pre I kvs=>KeysG kvs (pre.map f)) (fun _ _ _ _=>False) rfl Tryz.call175 (d0L _ vc c hvc hsc w2 (a1V l R p) rw2 (Nat.le_trans a6x hl) (fun r hr=>hsl r (a7O hr)) a (a2m c (a1V l R p) 4096).1 ra p day ga gw gc gd gp ka kw kc kd kp) (fun I vs x h=>by obtain⟨w,rfl,_⟩:=h;rfl) rfl (fun pre I I' s hI h=>h) (fun _ _ _ _ _ _ h=>h) (KeysG.nil) rfl ?_ ?_ ?_
  ·rintro r E1 pre s vs I1 kvs hI1 hK ⟨w,rfl,hw⟩ _;refine b4X ?_;refine go 2 ?_;refine a0j he rfl (fun g17=>?_);refine go 1 ?_;refine a0p _ he rfl rfl rfl rfl rfl (by simp[RdS.one hw]) ?_;refine go 1 ?_;refine a0f ?_;refine a6A ?_;refine go 1 ?_;refine a0N ?_;refine a1I T.mixed ?_;refine a0e 0 rfl rfl (by kernel_rfl) rfl (.cons _ (.refl _)) rfl (a2H m3 he rfl rfl) ?_;refine a0e 1 rfl rfl (by kernel_rfl) rfl (.cons _ (.refl _)) rfl (a2H m4 he rfl rfl) ?_;refine a0e 2 rfl rfl (by kernel_rfl) rfl (.cons _ (.refl _)) rfl (a3U m1 he rfl rfl) ?_;refine a0m 3 (by kernel_rfl) rfl ?_;refine a0d (hsh _ (j23.trans hI1) w s hw) rfl rfl ?_;refine a0D (fun _ m=>m.keeps (.cons _ (.refl _))) ?_;refine a0m 4 (by kernel_rfl) rfl ?_;refine a4w (a5D kvs (f s) (.bool true)) (a1K he) he (f s) rfl rfl rfl (rfl) ?_;refine a0D (fun _ m=>m.keeps (.cons _ (.refl _))) ?_;refine a0n (by kernel_rfl) ?_;refine go 1 ?_;refine a0o ?_;refine a0b ?_;refine a0N ?_;refine a0f ?_;refine a0N ?_;refine a0N ?_;refine a0N ?_;exact a9H ((a5D kvs (f s) (.bool true))) (hI1) ((by rw[List.map_append];exact hK.put)) rfl
  ·rintro D pre I1 kvs hI1 rfl hK;rw[b2I]at hK
   have hkl:=hK.len
   rw[List.length_map]at hkl
   have hkc:=b1n (c:=c) (own:=(a1V l R p)) (p:=p) (day:=day)
   refine b2s ?_;refine go 6 ?_;refine o_v rfl (b3N m2 he rfl) ?_;refine go 3 ?_;refine cb rfl (fun h38 p38=>?_) (fun h38 p38=>?_)
   ·refine go 8 ?_;refine a5m ?_;refine a1F rfl rfl rfl ?_
    have hz:a9d c (a1V l R p) p day=[]:=by
      have h1:kvs.length=0:=by simpa[a2E]using p38
      simpa using hK.zero_iff.1 h1
    exact q_i ⟨_,by rw[b2l h0 hz],by rw[b2l h0 hz];exact RdS.nil'⟩
   ·have hnz:a9d c (a1V l R p) p day≠[]:=fun e=>by
      rw[e]at hK
      have h1:=hK.zero_iff.2 rfl
      exact p38 (by simp[a2E,h1])
    refine a0o ?_;refine b0X (fun S1 hO2 hT2 hS2=>?_);refine b3G (fun I8 j8 hmp=>?_);refine go 6 ?_;refine a0O (c8E _ r29) rfl rfl (fun v40 I40 j40 q40=>?_);obtain⟨g40,rfl,cg40⟩:=q40;refine go 2 ?_;refine a0O (c3Q _ g40 (kvs.map Prod.fst) (by rw[List.length_map];omega) (by rw[List.length_map];exact c6h _ S1 r29 kvs hO2 hT2 hS2 g40 cg40 (j40 _ _ hmp))) rfl rfl (fun v42 I42 j42 q42=>?_);obtain⟨m,q42,hsr⟩:=q42;refine go 5 ?_;refine a5m ?_;refine a1F rfl rfl rfl ?_
    have e:=c0R hK hsr
    exact q_i ⟨_,by rw[b6x h0 hnz],by rw[b6x h0 hnz,←e];exact q42⟩
  ·rintro D pre I1 s cd hI1 hpart h;exact h.elim
theorem d0M (I:IMap) (vc:Value) (c:List Kind) (hvc:RdS I vc c) (hsc:SmC c) (v:Value) (l:List Rep) (hv:RdS I v l) (hl:l.length≤1000000) (hsl:∀r∈l,∀e∈r.options,SmE e) (R:Nat→Nat) (hRt:Rts l R) (p:ByteArray) (day:Int)  :
    FnI Tryz.prog 18 #[.agg #[vc],v,.string p,.int .i64 (day)] I (fun u J=>∃w,u = .tuple #[w,.int .i64 (a7V a2h (a7P p) c l (a1V l R p) p day).2]∧RdS J w (a7V a2h (a7P p) c l (a1V l R p) p day).1):=by
 refine enter Tryz.func18 Tryz.call18 rfl Tryz.ntmps18 rfl (fun w0=>?_);refine go 3 ?_;refine a0B _ rfl rfl rfl (fun g4=>?_);refine go 1 ?_;refine a0B _ rfl rfl rfl (fun g6=>?_);refine go 10 ?_;refine o_v rfl (a1i rfl rfl) ?_;refine go 1 ?_;refine a1Q (fun Ig6 jg6 cg6=>?_)
 try have hvc:=hvc.le jg6
 try have hv:=hv.le jg6
 try have cg6:=cg6.le jg6
 try have cg7:=cg7.le jg6
 try have cg8:=cg8.le jg6
 refine a0O (c3f _ vc c hvc hsc v l hv hl hsl R hRt p day 54 [.pointer (some ⟨g6,0,none⟩)] (a7P p) (fun J hJ w s hs=>c3e J w s hs p g6 (cg6.le hJ))) rfl rfl (fun v15 I15 j15 q15=>?_)
 try have hvc:=hvc.le j15
 try have hv:=hv.le j15
 try have cg6:=cg6.le j15
 try have cg7:=cg7.le j15
 try have cg8:=cg8.le j15
 obtain⟨w15,rfl,hw15⟩:=q15;refine go 7 ?_;refine a1F rfl rfl rfl ?_;exact q_i ⟨_,rfl,hw15⟩
theorem c0l (I:IMap) (vc:Value) (c:List Kind) (hvc:RdS I vc c) (hsc:SmC c) (v:Value) (l:List Rep) (hv:RdS I v l) (hl:l.length≤1000000) (hsl:∀r∈l,∀e∈r.options,SmE e) (R:Nat→Nat) (hRt:Rts l R) (p:ByteArray) (day:Int)  :
    FnI Tryz.prog 22 #[.agg #[vc],v,.string p,.int .i64 (day)] I (fun u J=>∃w,u = .tuple #[w,.int .i64 (a7V sLt (a7k p) c l (a1V l R p) p day).2]∧RdS J w (a7V sLt (a7k p) c l (a1V l R p) p day).1):=by
 refine enter Tryz.func22 Tryz.call22 rfl Tryz.ntmps22 rfl (fun w0=>?_);refine go 3 ?_;refine a0B _ rfl rfl rfl (fun g4=>?_);refine go 1 ?_;refine a0B _ rfl rfl rfl (fun g6=>?_);refine go 10 ?_;refine o_v rfl (a1i rfl rfl) ?_;refine go 1 ?_;refine a1Q (fun Ig6 jg6 cg6=>?_)
 try have hvc:=hvc.le jg6
 try have hv:=hv.le jg6
 try have cg6:=cg6.le jg6
 try have cg7:=cg7.le jg6
 try have cg8:=cg8.le jg6
 refine a0O (b6d _ vc c hvc hsc v l hv hl hsl R hRt p day 63 [.pointer (some ⟨g6,0,none⟩)] (a7k p) (fun J hJ w s hs=>b7G J w s hs p g6 (cg6.le hJ))) rfl rfl (fun v15 I15 j15 q15=>?_)
 try have hvc:=hvc.le j15
 try have hv:=hv.le j15
 try have cg6:=cg6.le j15
 try have cg7:=cg7.le j15
 try have cg8:=cg8.le j15
 obtain⟨w15,rfl,hw15⟩:=q15;refine go 7 ?_;refine a1F rfl rfl rfl ?_;exact q_i ⟨_,rfl,hw15⟩
theorem c6C (I:IMap) (vc:Value) (c:List Kind) (hvc:RdS I vc c) (hsc:SmC c) (v:Value) (l:List Rep) (hv:RdS I v l) (hl:l.length≤1000000) (hsl:∀r∈l,∀e∈r.options,SmE e) (R:Nat→Nat) (hRt:Rts l R) (p z:ByteArray) (day:Int)  :
    FnI Tryz.prog 20 #[.agg #[vc],v,.string p,.string z,.int .i64 (day)] I (fun u J=>∃w,u = .tuple #[w,.int .i64 (a7V sLt (a3z p z) c l (a1V l R p) p day).2]∧RdS J w (a7V sLt (a3z p z) c l (a1V l R p) p day).1):=by
 refine enter Tryz.func20 Tryz.call20 rfl Tryz.ntmps20 rfl (fun w0=>?_);refine go 3 ?_;refine a0B _ rfl rfl rfl (fun g5=>?_);refine go 1 ?_;refine a0B _ rfl rfl rfl (fun g7=>?_);refine go 1 ?_;refine a0B _ rfl rfl rfl (fun g8=>?_);refine go 10 ?_;refine o_v rfl (a1i rfl rfl) ?_;refine go 1 ?_;refine a0f ?_;refine a1Q (fun Ig7 jg7 cg7=>?_)
 try have hvc:=hvc.le jg7
 try have hv:=hv.le jg7
 try have cg6:=cg6.le jg7
 try have cg7:=cg7.le jg7
 try have cg8:=cg8.le jg7
 refine a1Q (fun Ig8 jg8 cg8=>?_)
 try have hvc:=hvc.le jg8
 try have hv:=hv.le jg8
 try have cg6:=cg6.le jg8
 try have cg7:=cg7.le jg8
 try have cg8:=cg8.le jg8
 refine a0O (b6d _ vc c hvc hsc v l hv hl hsl R hRt p day 62 [.pointer (some ⟨g7,0,none⟩),.pointer (some ⟨g8,0,none⟩)] (a3z p z) (fun J hJ w s hs=>c0m J w s hs p z g7 g8 (cg7.le hJ) (cg8.le hJ))) rfl rfl (fun v17 I17 j17 q17=>?_)
 try have hvc:=hvc.le j17
 try have hv:=hv.le j17
 try have cg6:=cg6.le j17
 try have cg7:=cg7.le j17
 try have cg8:=cg8.le j17
 obtain⟨w17,rfl,hw17⟩:=q17;refine go 7 ?_;refine a1F rfl rfl rfl ?_;exact q_i ⟨_,rfl,hw17⟩
end Go.Proofs.YtdapmfkbpnjkmaaGreat
set_option linter.all false
namespace Go.Sx
open Go
def b7c (c:List Kind) (l:List Rep):Bool:=c2n c&&b7b l 60
theorem c2m {c:List Kind} {l:List Rep} (h:b7c c l=true):SmC c∧l.length≤12∧(∀r∈l,∀e∈r.options,SmE e)∧a9X l≤60:=by
 simp only[b7c,Bool.and_eq_true]at h
 obtain⟨h1,h2⟩:=c2l h.2
 have h3:=b4i h1
 exact⟨c5R h.1,by have:=h3.2;omega,h3.1,by omega⟩
def a8k (l:List ByteArray):Int:=l.foldl (fun n s=>n+min ((s.size:Nat):Int) 301) 0
def c4W (l:List ByteArray):Bool:=decide (a8k l≤300)
theorem b0R {l:List ByteArray} {i:Nat} (hi:i<l.length):a8k (l.take (i+1))=a8k (l.take i)+min ((l[i].size:Nat):Int) 301:=by
 unfold a8k;rw[←a0i hi,List.foldl_append];rfl
theorem b6v {l:List ByteArray}:∀i,i≤l.length→0≤a8k (l.take i)∧a8k (l.take i)≤301 * i
 |0,_=>by simp[a8k]
 |i+1,h=>by
  have ih:=b6v (l:=l) i (by omega)
  rw[b0R (by omega:i<l.length)]
  omega
section
variable {α:Type} [DecidableEq α] {lt:α→α→Bool} {l:List α} {s:α} {i:Nat}
theorem b1G (hi:i<l.length) (hn:a4B lt s l=l.take i++a4B lt s (l.drop i)) (h:lt l[i] s=true):a4B lt s l=l.take (i+1)++a4B lt s (l.drop (i+1)):=by
 rw[hn,List.drop_eq_getElem_cons hi,←a0i hi,List.append_assoc]
 congr 1
 show a4B lt s (l[i]::_)=_
 rw[a4B,if_pos h];rfl
theorem a7E (hi:¬i<l.length) (hn:a4B lt s l=l.take i++a4B lt s (l.drop i)):a4B lt s l=l.take i++[s]++l.drop i:=by
 rw[hn,List.drop_eq_nil_of_le (by omega),a4B,List.append_nil]
theorem b5G (hi:i<l.length) (hn:a4B lt s l=l.take i++a4B lt s (l.drop i)) (h:¬lt l[i] s=true) (h2:l[i]=s):a4B lt s l=l:=by
 rw[hn,List.drop_eq_getElem_cons hi,a4B,if_neg h,if_pos h2];rw[←List.drop_eq_getElem_cons hi,List.take_append_drop]
theorem a7F (hi:i<l.length) (hn:a4B lt s l=l.take i++a4B lt s (l.drop i)) (h:¬lt l[i] s=true) (h2:¬l[i]=s):a4B lt s l=l.take i++[s]++l.drop i:=by
 rw[hn,List.drop_eq_getElem_cons hi,a4B,if_neg h,if_neg h2];rw[List.append_assoc];rfl
end
end Go.Sx
namespace Go.Proofs.YtdapmfkbpnjkmaaGreat
open Go Go.Sx
set_option linter.all false
set_option maxRecDepth 20000
set_option maxHeartbeats 4000000
instance T.by_53:Has (a2D Tryz.prog 53) ([.slice none 0 0],1,24):=⟨by kernel_rfl⟩
instance T.elt_40:Has (a8r Tryz.prog 40) (53,1):=⟨by kernel_rfl⟩
instance T.pl_64:Has (plK Tryz.prog 64) [(0,1),(1,1)]:=⟨by kernel_rfl⟩
instance T.und_40:Has (Tryz.prog.underlying 40) (.slice 53):=⟨by kernel_rfl⟩
theorem c2I (I:IMap) (vc:Value) (c:List Kind) (hvc:RdS I vc c) (v:Value) (l:List Rep) (hv:RdS I v l) :
    FnV Tryz.prog 16 #[.agg #[vc],v] I (.bool (b7c c l)):=by
 refine enter Tryz.func16 Tryz.call16 rfl Tryz.ntmps16 rfl (fun w0=>?_);refine go 3 ?_;refine a0B _ rfl rfl rfl (fun g2=>?_);refine go 7 ?_;refine a0d (c9o _ vc c hvc) rfl rfl ?_;refine go 1 ?_;refine sxb 7 rfl (fun h7 p7=>?_) (fun h7 p7=>?_)
 ·refine go 2 ?_;refine a0R rfl rfl h7 (a0d (c3u _ v l hv 60 (by omega)) rfl rfl ?_);refine go 5 ?_;refine a0s rfl rfl ?_;exact q_v (congrArg Value.bool (by simp only[b7c,h7,bS]))
 ·refine go 7 ?_;refine a0s rfl rfl ?_;exact q_v (congrArg Value.bool (by simp only[b7c,h7,bS]))
theorem b7m (I:IMap) (v:Value) (l:List ByteArray) (hv:RdS I v l) (hl:l.length≤1000) :
    FnV Tryz.prog 17 #[v] I (.bool (c4W l)):=by
 have hv0:=hv
 obtain⟨A,c0,rfl,hA,hc,hm⟩:=hv;refine enter Tryz.func17 Tryz.call17 rfl Tryz.ntmps17 rfl (fun w0=>?_);refine go 17 ?_
 refine a0Q (α:=Nat) 0 (fun i=>I)
  (fun i=>[(0,.slice A l.length c0),(3,.int .i64 (a8k (l.take i))),(4,.int .i64 ((i:Nat):Int))])
  (fun i=>[])
  (fun i=>i≤l.length)
  (fun i=>l.length-i) (Nat.zero_le _) rfl sb rfl ?_
 intro i hi
 have hb:=b6v (l:=l) i hi
 refine go 9 ?_;refine cb rfl (fun h8 p8=>?_) (fun h8 p8=>?_)
 ·have hlt:i<l.length:=by omega
  refine go 8 ?_;obtain⟨b14,o14,w14,e14,c14,r14⟩:=RdA.at_ hA (i:=i) (by omega);obtain rfl:=r14;refine o_v rfl (a0h he rfl rfl e14 (i) (by omega) (by omega)) ?_;refine o_v rfl (a0K he rfl (c14 0 _ rfl)) ?_;refine go 1 ?_;refine o_v rfl (OV.cast (u:=.int .i64 (min ((l[i].size:Nat):Int) 301)) (c5f rfl rfl) (congrArg (Value.int .i64) (by split<;>omega))) ?_;refine go 11 ?_;exact a0M (i+1) (by omega) (by omega) rfl ⟨rfl,congrArg (fun n:Int=>some (Value.int .i64 n)) (b0R hlt).symm,rfl,trivial⟩ rfl
 ·refine go 13 ?_;refine a0s rfl rfl ?_;obtain rfl:i=l.length:=by omega
  rw[List.take_length];exact q_v rfl
theorem b4I (I:IMap) (v:Value) (l:List Plc) (hv:RdS I v l) (v2:Value) (m:List Plc) (hv2:RdS I v2 m) :
    FnV Tryz.prog 24 #[v,v2] I (.bool (decide (l=m))):=by
 obtain⟨A,c0,rfl,hA,hc,hm⟩:=hv;obtain⟨B,c1,rfl,hB,hc1,hm1⟩:=hv2;refine enter Tryz.func24 Tryz.call24 rfl Tryz.ntmps24 rfl (fun w0=>?_);refine go 15 ?_;refine cb rfl (fun h10 p10=>?_) (fun h10 p10=>?_)
 ·refine go 7 ?_;refine a0s rfl rfl ?_;exact q_v (congrArg Value.bool (decide_eq_false (by rintro rfl;revert h10;simp)).symm)
 ·have hlm:l.length=m.length:=by revert h10;simp;omega
  refine go 9 ?_
  refine a0Q (α:=Nat) 0 (fun i=>I)
   (fun i=>[(0,.slice A l.length c0),(1,.slice B m.length c1),(5,.int .i64 ((i:Nat):Int))])
   (fun i=>[])
   (fun i=>i≤l.length∧l.take i=m.take i)
   (fun i=>l.length-i) ⟨Nat.zero_le _,rfl⟩ rfl sb rfl ?_
  intro i ⟨hi,hn⟩;refine go 9 ?_;refine cb rfl (fun h14 p14=>?_) (fun h14 p14=>?_)
  ·have hlt:i<l.length:=by omega
   refine go 5 ?_;refine a0F T.mixed ?_;refine a0e 0 rfl rfl (by kernel_rfl) rfl .slnil rfl (a0a rfl) ?_;refine a0e 1 rfl rfl (by kernel_rfl) rfl .slnil rfl (a0a rfl) ?_;obtain⟨b19,o19,w19,e19,c19,r19⟩:=RdA.at_ hA (i:=i) hlt;obtain rfl:=r19;refine a0e 2 rfl rfl (by kernel_rfl) rfl .slnil rfl (a0h he rfl rfl e19 (i) (by omega) hlt) ?_;refine a0e 3 rfl rfl (by kernel_rfl) rfl .slnil rfl (a0G he rfl c19 rfl) ?_;refine a0e 4 rfl rfl (by kernel_rfl) rfl .slnil rfl (a0a rfl) ?_;refine a0e 5 rfl rfl (by kernel_rfl) rfl .slnil rfl (a0a rfl) ?_;obtain⟨b23,o23,w23,e23,c23,r23⟩:=RdA.at_ hB (i:=i) (by omega);obtain rfl:=r23;refine a0e 6 rfl rfl (by kernel_rfl) rfl .slnil rfl (a0h he rfl rfl e23 (i) (by omega) (by omega)) ?_;refine a0e 7 rfl rfl (by kernel_rfl) rfl .slnil rfl (a0G he rfl c23 rfl) ?_;refine a0e 8 rfl rfl (by kernel_rfl) rfl .slnil rfl (c7B T.eqg_55 (b1u l[i] m[i]) rfl rfl) ?_;refine a0n (by kernel_rfl) ?_;refine go 1 ?_;refine cb rfl (fun h25 p25=>?_) (fun h25 p25=>?_)
   ·refine go 11 ?_;refine a0s rfl rfl ?_;exact q_v (congrArg Value.bool (c0N hlt (by omega) (by simpa using p25)).symm)
   ·refine go 9 ?_;exact a0M (i+1) ⟨by omega,b3x hlt (by omega) hn (by simpa using p25)⟩ (by omega) rfl sb rfl
  ·refine go 11 ?_;refine a0s rfl rfl ?_;exact q_v (congrArg Value.bool (decide_eq_true (b6t hlm (by omega) hn)).symm)
theorem a7j (I:IMap) (v:Value) (l:List Plc) (hv:RdS I v l) (v2:Value) (m:List Plc) (hv2:RdS I v2 m) (h:l=m):FnV Tryz.prog 24 #[v,v2] I (.bool true):=by
 have:=b4I I v l hv v2 m hv2
 rwa[decide_eq_true h]at this
theorem c0u (I:IMap) (v:Value) (l:List ByteArray) (hv:RdS I v l) (v2:Value) (m:List ByteArray) (hv2:RdS I v2 m) :
    FnV Tryz.prog 25 #[v,v2] I (.bool (decide (l=m))):=by
 obtain⟨A,c0,rfl,hA,hc,hm⟩:=hv;obtain⟨B,c1,rfl,hB,hc1,hm1⟩:=hv2;refine enter Tryz.func25 Tryz.call25 rfl Tryz.ntmps25 rfl (fun w0=>?_);refine go 15 ?_;refine cb rfl (fun h10 p10=>?_) (fun h10 p10=>?_)
 ·refine go 7 ?_;refine a0s rfl rfl ?_;exact q_v (congrArg Value.bool (decide_eq_false (by rintro rfl;revert h10;simp)).symm)
 ·have hlm:l.length=m.length:=by revert h10;simp;omega
  refine go 9 ?_
  refine a0Q (α:=Nat) 0 (fun i=>I)
   (fun i=>[(0,.slice A l.length c0),(1,.slice B m.length c1),(5,.int .i64 ((i:Nat):Int))])
   (fun i=>[])
   (fun i=>i≤l.length∧l.take i=m.take i)
   (fun i=>l.length-i) ⟨Nat.zero_le _,rfl⟩ rfl sb rfl ?_
  intro i ⟨hi,hn⟩;refine go 9 ?_;refine cb rfl (fun h14 p14=>?_) (fun h14 p14=>?_)
  ·have hlt:i<l.length:=by omega
   refine go 5 ?_;refine a0F T.mixed ?_;refine a0e 0 rfl rfl (by kernel_rfl) rfl .slnil rfl (a0a rfl) ?_;refine a0e 1 rfl rfl (by kernel_rfl) rfl .slnil rfl (a0a rfl) ?_;obtain⟨b19,o19,w19,e19,c19,r19⟩:=RdA.at_ hA (i:=i) hlt;obtain rfl:=r19;refine a0e 2 rfl rfl (by kernel_rfl) rfl .slnil rfl (a0h he rfl rfl e19 (i) (by omega) hlt) ?_;refine a0e 3 rfl rfl (by kernel_rfl) rfl .slnil rfl (a0K he rfl (c19 0 _ rfl)) ?_;refine a0e 4 rfl rfl (by kernel_rfl) rfl .slnil rfl (a0a rfl) ?_;refine a0e 5 rfl rfl (by kernel_rfl) rfl .slnil rfl (a0a rfl) ?_;obtain⟨b23,o23,w23,e23,c23,r23⟩:=RdA.at_ hB (i:=i) (by omega);obtain rfl:=r23;refine a0e 6 rfl rfl (by kernel_rfl) rfl .slnil rfl (a0h he rfl rfl e23 (i) (by omega) (by omega)) ?_;refine a0e 7 rfl rfl (by kernel_rfl) rfl .slnil rfl (a0K he rfl (c23 0 _ rfl)) ?_;refine a0e 8 rfl rfl (by kernel_rfl) rfl .slnil rfl (b1a rfl rfl) ?_;refine a0n (by kernel_rfl) ?_;refine go 1 ?_;refine cb rfl (fun h25 p25=>?_) (fun h25 p25=>?_)
   ·refine go 11 ?_;refine a0s rfl rfl ?_;exact q_v (congrArg Value.bool (c0N hlt (by omega) (by simpa using p25)).symm)
   ·refine go 9 ?_;exact a0M (i+1) ⟨by omega,b3x hlt (by omega) hn (by simpa using p25)⟩ (by omega) rfl sb rfl
  ·refine go 11 ?_;refine a0s rfl rfl ?_;exact q_v (congrArg Value.bool (decide_eq_true (b6t hlm (by omega) hn)).symm)
theorem a4J (I:IMap) (v:Value) (l:List ByteArray) (hv:RdS I v l) (v2:Value) (m:List ByteArray) (hv2:RdS I v2 m) (h:l=m):FnV Tryz.prog 25 #[v,v2] I (.bool true):=by
 have:=c0u I v l hv v2 m hv2
 rwa[decide_eq_true h]at this
theorem b3r (I:IMap) (v:Value) (l:List ByteArray) (hv:RdS I v l) (hl:l.length≤1000000) (s:ByteArray) :
    FnI Tryz.prog 31 #[v,.string s] I (fun u J=>RdS J u (a4B sLt s l)):=by
 have hv0:=hv
 obtain⟨A,c0,rfl,hA,hc,hm⟩:=hv;refine enter Tryz.func31 Tryz.call31 rfl Tryz.ntmps31 rfl (fun w0=>?_);refine go 11 ?_;refine a5d (α:=Nat) (Ix:=(fun i=>I)) (Lx:=(fun i=>[(0,.slice A l.length c0),(1,.string s),(5,.int .i64 ((i:Nat):Int))])) (Hx:=(fun i=>[])) (p:=(fun i=>i≤l.length∧a4B sLt s l=l.take i++a4B sLt s (l.drop i)∧∀h:i<l.length,¬sLt l[i] s=true)) ?_ ?_
 ·refine go 1 ?_
  refine a0Q (α:=Nat) 0 (fun i=>I)
   (fun i=>[(0,.slice A l.length c0),(1,.string s),(5,.int .i64 ((i:Nat):Int))])
   (fun i=>[])
   (fun i=>i≤l.length∧a4B sLt s l=l.take i++a4B sLt s (l.drop i))
   (fun i=>l.length-i) ⟨Nat.zero_le _,rfl⟩ rfl sb rfl ?_
  intro i ⟨hi,hn⟩;refine go 8 ?_;refine sxb 10 rfl (fun h10 p10=>?_) (fun h10 p10=>?_)
  ·have hlt:i<l.length:=by omega
   refine go 2 ?_;obtain⟨b13,o13,w13,e13,c13,r13⟩:=RdA.at_ hA (i:=i) (by omega);obtain rfl:=r13;refine a1d (a0R rfl rfl h10 (a0t rfl (a0h he rfl rfl e13 (i) (by omega) (by omega)) ?_));refine a1d (a0R rfl rfl h10 (a0t rfl (a0K he rfl (c13 0 _ rfl)) ?_));refine go 5 ?_;refine cb rfl (fun h17 p17=>?_) (fun h17 p17=>?_)
   ·refine go 10 ?_;exact a0M (i+1) ⟨by omega,b1G hlt hn h17⟩ (by omega) rfl sb rfl
   ·refine go 5 ?_;exact a2a i ⟨by omega,hn,fun _=>by simpa using h17⟩ sb rfl rfl
  ·refine go 9 ?_;refine a0T rfl ?_;refine go 5 ?_;exact a2a i ⟨by omega,hn,fun h=>absurd h (by omega)⟩ sb rfl rfl
 ·intro i ⟨hi,hn,hs⟩;refine go 8 ?_;refine sxb 24 rfl (fun h24 p24=>?_) (fun h24 p24=>?_)
  ·have hlt:i<l.length:=by omega
   refine go 2 ?_;obtain⟨b27,o27,w27,e27,c27,r27⟩:=RdA.at_ hA (i:=i) (by omega);obtain rfl:=r27;refine a1d (a0R rfl rfl h24 (a0t rfl (a0h he rfl rfl e27 (i) (by omega) (by omega)) ?_));refine a1d (a0R rfl rfl h24 (a0t rfl (a0K he rfl (c27 0 _ rfl)) ?_));refine go 5 ?_;refine cb rfl (fun h31 p31=>?_) (fun h31 p31=>?_)
   ·refine go 8 ?_;refine a0s rfl rfl ?_;exact q_i (by rw[b5G hlt hn (hs hlt) p31];exact hv0)
   ·refine go 3 ?_;refine a2Z (fun hE6 hf6=>?_);refine a0F T.mixed ?_;refine a0e 1 rfl rfl (by kernel_rfl) rfl .slnil rfl (a0a rfl) ?_;refine a0e 2 rfl rfl (by kernel_rfl) rfl .slnil rfl (a0a rfl) ?_;refine a0e 3 rfl rfl (by kernel_rfl) rfl .slnil rfl (a1w he rfl rfl i (by omega) (by omega)) ?_;refine a0e 5 rfl rfl (by kernel_rfl) rfl .slnil rfl (a0a rfl) ?_;refine a0e 8 rfl rfl (by kernel_rfl) rfl .slnil rfl (a0a rfl) ?_;refine a0e 9 rfl rfl (by kernel_rfl) rfl .slnil rfl (a0a rfl) ?_;refine a0e 10 rfl rfl (by kernel_rfl) rfl .slnil rfl (a0S he rfl rfl i (by omega) (by omega)) ?_;refine a3O 0 6 (by kernel_rfl) rfl rfl ?_ ?_
    ·refine a0c he he rfl rfl rfl rfl rfl rfl rfl (fun v33=>?_);refine a0D (fun _ m=>m.keeps (.cons _ .slnil)) ?_;refine a3O 4 6 (by kernel_rfl) rfl rfl ?_ ?_
     ·refine a0y ((hv0.takeM i (by omega))) rfl he he rfl rfl rfl rfl (by simp only[List.length_append,List.length_take,List.length_drop,List.length_singleton];omega) (by simp only[List.length_append,List.length_take,List.length_drop,List.length_singleton];omega) rfl (fun v37 x37 f37=>?_);refine a0D (fun _ m=>m.keeps (.cons _ .slnil)) ?_;refine a0m 6 (by kernel_rfl) rfl ?_;refine a0c he he rfl rfl rfl rfl rfl rfl rfl (fun v39=>?_);refine a0D (fun _ m=>m.keeps (.cons _ (.cons _ .slnil))) ?_;refine a0m 7 (by kernel_rfl) rfl ?_;refine a0f ?_;refine a0v he he rfl rfl rfl rfl rfl (by simp only[List.length_append,List.length_take,List.length_drop,List.length_singleton];omega) (by simp only[List.length_append,List.length_take,List.length_drop,List.length_singleton];omega) rfl (fun v40=>?_);refine a0D (fun _ m=>m.keeps (.cons _ (.cons _ .slnil))) ?_;refine a0m 11 (by kernel_rfl) rfl ?_;refine a0y ((hv0.dropM i (by omega))) rfl he he rfl rfl rfl rfl (by simp only[List.length_append,List.length_take,List.length_drop,List.length_singleton];omega) (by simp only[List.length_append,List.length_take,List.length_drop,List.length_singleton];omega) rfl (fun v44 x44 f44=>?_);refine a0l (l:=(l.take i++[s]++l.drop i)) rfl (by simp only[List.length_append,Nat.zero_add];rfl) (((f37.append (.one rfl)).append f44)) (fun I44 j44 R44=>?_);refine a0D (fun _ m=>m.keepsI (.cons _ .slnil) (j44) hE6 hf6) ?_;refine d_t 12 rfl rfl (by kernel_rfl) rfl (fun _ m=>m.keepsI (.cons _ .slnil) (j44) hE6 hf6) (y_v rfl (a0Y rfl)) ?_;refine a0n (by kernel_rfl) ?_;refine go 2 ?_;refine a0s rfl rfl ?_;exact q_i (by rw[a7F hlt hn (hs hlt) p31];exact R44)
     ·refine a0c he he rfl rfl rfl rfl rfl rfl rfl (fun v39=>?_);refine a0D (fun _ m=>m.keeps (.cons _ (.cons _ .slnil))) ?_;refine a0m 4 (by kernel_rfl) rfl ?_;refine a0f ?_;refine a0y ((hv0.takeM i (by omega))) rfl he he rfl rfl rfl rfl (by simp only[List.length_append,List.length_take,List.length_drop,List.length_singleton];omega) (by simp only[List.length_append,List.length_take,List.length_drop,List.length_singleton];omega) rfl (fun v37 x37 f37=>?_);refine a0D (fun _ m=>m.keeps (.cons _ (.cons _ .slnil))) ?_;refine a0m 7 (by kernel_rfl) rfl ?_;refine a0f ?_;refine a0f ?_;refine a0v he he rfl rfl rfl rfl rfl (by simp only[List.length_append,List.length_take,List.length_drop,List.length_singleton];omega) (by simp only[List.length_append,List.length_take,List.length_drop,List.length_singleton];omega) rfl (fun v40=>?_);refine a0D (fun _ m=>m.keeps (.cons _ (.cons _ .slnil))) ?_;refine a0m 11 (by kernel_rfl) rfl ?_;refine a0y ((hv0.dropM i (by omega))) rfl he he rfl rfl rfl rfl (by simp only[List.length_append,List.length_take,List.length_drop,List.length_singleton];omega) (by simp only[List.length_append,List.length_take,List.length_drop,List.length_singleton];omega) rfl (fun v44 x44 f44=>?_);refine a0l (l:=(l.take i++[s]++l.drop i)) rfl (by simp only[List.length_append,Nat.zero_add];rfl) (((f37.append (.one rfl)).append f44)) (fun I44 j44 R44=>?_);refine a0D (fun _ m=>m.keepsI (.cons _ .slnil) (j44) hE6 hf6) ?_;refine d_t 12 rfl rfl (by kernel_rfl) rfl (fun _ m=>m.keepsI (.cons _ .slnil) (j44) hE6 hf6) (y_v rfl (a0Y rfl)) ?_;refine a0n (by kernel_rfl) ?_;refine go 2 ?_;refine a0s rfl rfl ?_;exact q_i (by rw[a7F hlt hn (hs hlt) p31];exact R44)
    ·refine a0c he he rfl rfl rfl rfl rfl rfl rfl (fun v39=>?_);refine a0D (fun _ m=>m.keeps (.cons _ .slnil)) ?_;refine a0m 0 (by kernel_rfl) rfl ?_;refine a0c he he rfl rfl rfl rfl rfl rfl rfl (fun v33=>?_);refine a0D (fun _ m=>m.keeps (.cons _ (.cons _ .slnil))) ?_;refine a0m 4 (by kernel_rfl) rfl ?_;refine a0y ((hv0.takeM i (by omega))) rfl he he rfl rfl rfl rfl (by simp only[List.length_append,List.length_take,List.length_drop,List.length_singleton];omega) (by simp only[List.length_append,List.length_take,List.length_drop,List.length_singleton];omega) rfl (fun v37 x37 f37=>?_);refine a0D (fun _ m=>m.keeps (.cons _ (.cons _ .slnil))) ?_;refine a0m 7 (by kernel_rfl) rfl ?_;refine a0f ?_;refine a0f ?_;refine a0v he he rfl rfl rfl rfl rfl (by simp only[List.length_append,List.length_take,List.length_drop,List.length_singleton];omega) (by simp only[List.length_append,List.length_take,List.length_drop,List.length_singleton];omega) rfl (fun v40=>?_);refine a0D (fun _ m=>m.keeps (.cons _ (.cons _ .slnil))) ?_;refine a0m 11 (by kernel_rfl) rfl ?_;refine a0y ((hv0.dropM i (by omega))) rfl he he rfl rfl rfl rfl (by simp only[List.length_append,List.length_take,List.length_drop,List.length_singleton];omega) (by simp only[List.length_append,List.length_take,List.length_drop,List.length_singleton];omega) rfl (fun v44 x44 f44=>?_);refine a0l (l:=(l.take i++[s]++l.drop i)) rfl (by simp only[List.length_append,Nat.zero_add];rfl) (((f37.append (.one rfl)).append f44)) (fun I44 j44 R44=>?_);refine a0D (fun _ m=>m.keepsI (.cons _ .slnil) (j44) hE6 hf6) ?_;refine d_t 12 rfl rfl (by kernel_rfl) rfl (fun _ m=>m.keepsI (.cons _ .slnil) (j44) hE6 hf6) (y_v rfl (a0Y rfl)) ?_;refine a0n (by kernel_rfl) ?_;refine go 2 ?_;refine a0s rfl rfl ?_;exact q_i (by rw[a7F hlt hn (hs hlt) p31];exact R44)
  ·refine go 9 ?_;refine a0T rfl ?_;refine go 3 ?_;refine a2Z (fun hE6 hf6=>?_);refine a0F T.mixed ?_;refine a0e 1 rfl rfl (by kernel_rfl) rfl .slnil rfl (a0a rfl) ?_;refine a0e 2 rfl rfl (by kernel_rfl) rfl .slnil rfl (a0a rfl) ?_;refine a0e 3 rfl rfl (by kernel_rfl) rfl .slnil rfl (a1w he rfl rfl i (by omega) (by omega)) ?_;refine a0e 5 rfl rfl (by kernel_rfl) rfl .slnil rfl (a0a rfl) ?_;refine a0e 8 rfl rfl (by kernel_rfl) rfl .slnil rfl (a0a rfl) ?_;refine a0e 9 rfl rfl (by kernel_rfl) rfl .slnil rfl (a0a rfl) ?_;refine a0e 10 rfl rfl (by kernel_rfl) rfl .slnil rfl (a0S he rfl rfl i (by omega) (by omega)) ?_;refine a3O 0 6 (by kernel_rfl) rfl rfl ?_ ?_
   ·refine a0c he he rfl rfl rfl rfl rfl rfl rfl (fun v33=>?_);refine a0D (fun _ m=>m.keeps (.cons _ .slnil)) ?_;refine a3O 4 6 (by kernel_rfl) rfl rfl ?_ ?_
    ·refine a0y ((hv0.takeM i (by omega))) rfl he he rfl rfl rfl rfl (by simp only[List.length_append,List.length_take,List.length_drop,List.length_singleton];omega) (by simp only[List.length_append,List.length_take,List.length_drop,List.length_singleton];omega) rfl (fun v37 x37 f37=>?_);refine a0D (fun _ m=>m.keeps (.cons _ .slnil)) ?_;refine a0m 6 (by kernel_rfl) rfl ?_;refine a0c he he rfl rfl rfl rfl rfl rfl rfl (fun v39=>?_);refine a0D (fun _ m=>m.keeps (.cons _ (.cons _ .slnil))) ?_;refine a0m 7 (by kernel_rfl) rfl ?_;refine a0f ?_;refine a0v he he rfl rfl rfl rfl rfl (by simp only[List.length_append,List.length_take,List.length_drop,List.length_singleton];omega) (by simp only[List.length_append,List.length_take,List.length_drop,List.length_singleton];omega) rfl (fun v40=>?_);refine a0D (fun _ m=>m.keeps (.cons _ (.cons _ .slnil))) ?_;refine a0m 11 (by kernel_rfl) rfl ?_;refine a0y ((hv0.dropM i (by omega))) rfl he he rfl rfl rfl rfl (by simp only[List.length_append,List.length_take,List.length_drop,List.length_singleton];omega) (by simp only[List.length_append,List.length_take,List.length_drop,List.length_singleton];omega) rfl (fun v44 x44 f44=>?_);refine a0l (l:=(l.take i++[s]++l.drop i)) rfl (by simp only[List.length_append,Nat.zero_add];rfl) (((f37.append (.one rfl)).append f44)) (fun I44 j44 R44=>?_);refine a0D (fun _ m=>m.keepsI (.cons _ .slnil) (j44) hE6 hf6) ?_;refine d_t 12 rfl rfl (by kernel_rfl) rfl (fun _ m=>m.keepsI (.cons _ .slnil) (j44) hE6 hf6) (y_v rfl (a0Y rfl)) ?_;refine a0n (by kernel_rfl) ?_;refine go 2 ?_;refine a0s rfl rfl ?_;exact q_i (by rw[a7E (by omega) hn];exact R44)
    ·refine a0c he he rfl rfl rfl rfl rfl rfl rfl (fun v39=>?_);refine a0D (fun _ m=>m.keeps (.cons _ (.cons _ .slnil))) ?_;refine a0m 4 (by kernel_rfl) rfl ?_;refine a0f ?_;refine a0y ((hv0.takeM i (by omega))) rfl he he rfl rfl rfl rfl (by simp only[List.length_append,List.length_take,List.length_drop,List.length_singleton];omega) (by simp only[List.length_append,List.length_take,List.length_drop,List.length_singleton];omega) rfl (fun v37 x37 f37=>?_);refine a0D (fun _ m=>m.keeps (.cons _ (.cons _ .slnil))) ?_;refine a0m 7 (by kernel_rfl) rfl ?_;refine a0f ?_;refine a0f ?_;refine a0v he he rfl rfl rfl rfl rfl (by simp only[List.length_append,List.length_take,List.length_drop,List.length_singleton];omega) (by simp only[List.length_append,List.length_take,List.length_drop,List.length_singleton];omega) rfl (fun v40=>?_);refine a0D (fun _ m=>m.keeps (.cons _ (.cons _ .slnil))) ?_;refine a0m 11 (by kernel_rfl) rfl ?_;refine a0y ((hv0.dropM i (by omega))) rfl he he rfl rfl rfl rfl (by simp only[List.length_append,List.length_take,List.length_drop,List.length_singleton];omega) (by simp only[List.length_append,List.length_take,List.length_drop,List.length_singleton];omega) rfl (fun v44 x44 f44=>?_);refine a0l (l:=(l.take i++[s]++l.drop i)) rfl (by simp only[List.length_append,Nat.zero_add];rfl) (((f37.append (.one rfl)).append f44)) (fun I44 j44 R44=>?_);refine a0D (fun _ m=>m.keepsI (.cons _ .slnil) (j44) hE6 hf6) ?_;refine d_t 12 rfl rfl (by kernel_rfl) rfl (fun _ m=>m.keepsI (.cons _ .slnil) (j44) hE6 hf6) (y_v rfl (a0Y rfl)) ?_;refine a0n (by kernel_rfl) ?_;refine go 2 ?_;refine a0s rfl rfl ?_;exact q_i (by rw[a7E (by omega) hn];exact R44)
   ·refine a0c he he rfl rfl rfl rfl rfl rfl rfl (fun v39=>?_);refine a0D (fun _ m=>m.keeps (.cons _ .slnil)) ?_;refine a0m 0 (by kernel_rfl) rfl ?_;refine a0c he he rfl rfl rfl rfl rfl rfl rfl (fun v33=>?_);refine a0D (fun _ m=>m.keeps (.cons _ (.cons _ .slnil))) ?_;refine a0m 4 (by kernel_rfl) rfl ?_;refine a0y ((hv0.takeM i (by omega))) rfl he he rfl rfl rfl rfl (by simp only[List.length_append,List.length_take,List.length_drop,List.length_singleton];omega) (by simp only[List.length_append,List.length_take,List.length_drop,List.length_singleton];omega) rfl (fun v37 x37 f37=>?_);refine a0D (fun _ m=>m.keeps (.cons _ (.cons _ .slnil))) ?_;refine a0m 7 (by kernel_rfl) rfl ?_;refine a0f ?_;refine a0f ?_;refine a0v he he rfl rfl rfl rfl rfl (by simp only[List.length_append,List.length_take,List.length_drop,List.length_singleton];omega) (by simp only[List.length_append,List.length_take,List.length_drop,List.length_singleton];omega) rfl (fun v40=>?_);refine a0D (fun _ m=>m.keeps (.cons _ (.cons _ .slnil))) ?_;refine a0m 11 (by kernel_rfl) rfl ?_;refine a0y ((hv0.dropM i (by omega))) rfl he he rfl rfl rfl rfl (by simp only[List.length_append,List.length_take,List.length_drop,List.length_singleton];omega) (by simp only[List.length_append,List.length_take,List.length_drop,List.length_singleton];omega) rfl (fun v44 x44 f44=>?_);refine a0l (l:=(l.take i++[s]++l.drop i)) rfl (by simp only[List.length_append,Nat.zero_add];rfl) (((f37.append (.one rfl)).append f44)) (fun I44 j44 R44=>?_);refine a0D (fun _ m=>m.keepsI (.cons _ .slnil) (j44) hE6 hf6) ?_;refine d_t 12 rfl rfl (by kernel_rfl) rfl (fun _ m=>m.keepsI (.cons _ .slnil) (j44) hE6 hf6) (y_v rfl (a0Y rfl)) ?_;refine a0n (by kernel_rfl) ?_;refine go 2 ?_;refine a0s rfl rfl ?_;exact q_i (by rw[a7E (by omega) hn];exact R44)
theorem b9C (I:IMap) (p k:ByteArray) :
    FnI Tryz.prog 102 #[.string p,.string k] I (fun u J=>∃w,u = .agg #[w,.bool false]∧RdS J w [b3E p k]):=by
 refine enter Tryz.func102 Tryz.call102 rfl Tryz.ntmps102 rfl (fun w0=>?_);refine go 3 ?_;refine a0j he rfl (fun g4=>?_);refine go 7 ?_;refine a0t rfl (a0H (pl:=[(0,1),(1,1),(2,1),(3,1),(4,1),(5,1),(6,1),(7,1),(8,6)]) he he rfl rfl) ?_;refine go 1 ?_;refine a0c he he rfl rfl rfl rfl rfl rfl rfl (fun v8=>?_);refine a0l (l:=[b3E p k]) rfl rfl (.one rfl) (fun I8 j8 R8=>?_)
 have R8s:=R8
 obtain⟨A8,c8,rfl,_⟩:=R8s;refine go 1 ?_;refine a0t rfl (a0H (pl:=[(0,1),(1,1)]) he he rfl rfl) ?_;refine go 1 ?_;refine a0p _ he rfl rfl rfl rfl rfl rfl ?_;refine go 3 ?_;refine a0s rfl ⟨_,_,_,rfl,m0,.inr ⟨_,he,rfl,rfl⟩⟩ ?_;exact q_i ⟨_,rfl,R8⟩
theorem c8o (I:IMap) (p:ByteArray) :
    FnV Tryz.prog 103 #[.string p] I (.agg (c1d p).cells.toArray):=by
 refine enter Tryz.func103 Tryz.call103 rfl Tryz.ntmps103 rfl (fun w0=>?_);refine go 3 ?_;refine a0j he rfl (fun g2=>?_);refine go 6 ?_;refine a0t rfl (a0H (pl:=[(0,1),(1,1),(2,1),(3,1),(4,1),(5,1),(6,1),(7,1),(8,6)]) he he rfl rfl) ?_;refine go 1 ?_;refine a0p _ he rfl rfl rfl rfl rfl rfl ?_;refine go 3 ?_;refine a0s rfl ⟨_,_,_,rfl,m0,.inr ⟨_,he,rfl,rfl⟩⟩ ?_;exact q_v rfl
theorem b8Z (I:IMap) :
    FnI Tryz.prog 50 #[] I (fun u J=>∃vc A,u = .tuple #[.agg #[vc],.slice A sxL.length sxL.length]∧RdS J vc sxC∧RdA J A sxL):=by
 refine enter Tryz.func50 Tryz.call50 rfl Tryz.ntmps50 rfl (fun w0=>?_);refine go 3 ?_;refine a0j he rfl (fun g0=>?_);refine go 6 ?_;refine a0t rfl (a0H (pl:=[(0,1),(1,1),(2,1)]) he he rfl rfl) ?_;refine go 1 ?_;refine a0c he he rfl rfl rfl rfl rfl rfl rfl (fun v7=>?_);refine a0l (l:=[a5R]) rfl rfl (.one rfl) (fun I7 j7 R7=>?_)
 try have R7:=R7.le j7
 try have R9:=R9.le j7
 try have R11:=R11.le j7
 try have R14:=R14.le j7
 try have R16:=R16.le j7
 try have R18:=R18.le j7
 try have R23:=R23.le j7
 have R7s:=R7
 obtain⟨A7,c7,rfl,_⟩:=R7s;refine go 1 ?_;refine a0t rfl (a0H (pl:=[(0,1),(1,1),(2,1)]) he he rfl rfl) ?_;refine go 1 ?_;refine a0c he he rfl rfl rfl rfl rfl rfl rfl (fun v9=>?_);refine a0l (l:=[(⟨a5R,[a5R],1⟩:Slot)]) rfl rfl (.one ⟨_,rfl,R7⟩) (fun I9 j9 R9=>?_)
 try have R7:=R7.le j9
 try have R9:=R9.le j9
 try have R11:=R11.le j9
 try have R14:=R14.le j9
 try have R16:=R16.le j9
 try have R18:=R18.le j9
 try have R23:=R23.le j9
 have R9s:=R9
 obtain⟨A9,c9,rfl,_⟩:=R9s;refine go 1 ?_;refine a0t rfl (a0H (pl:=[(0,1),(1,1),(2,1)]) he he rfl rfl) ?_;refine go 1 ?_;refine a0c he he rfl rfl rfl rfl rfl rfl rfl (fun v11=>?_);refine a0l (l:=sxC) rfl rfl (.cons ⟨_,rfl,RdS.nil'⟩ (.one ⟨_,rfl,R9⟩)) (fun I11 j11 R11=>?_)
 try have R7:=R7.le j11
 try have R9:=R9.le j11
 try have R11:=R11.le j11
 try have R14:=R14.le j11
 try have R16:=R16.le j11
 try have R18:=R18.le j11
 try have R23:=R23.le j11
 have R11s:=R11
 obtain⟨A11,c11,rfl,_⟩:=R11s;refine go 1 ?_;refine a0t rfl (a0H (pl:=[(0,1)]) he he rfl rfl) ?_;refine go 1 ?_;refine a0j he rfl (fun g2=>?_);refine go 1 ?_;refine a0p _ he rfl rfl rfl rfl rfl rfl ?_;refine go 16 ?_;refine a0O (b9C _ sA a5R) rfl rfl (fun v14 I14 j14 q14=>?_)
 try have R7:=R7.le j14
 try have R9:=R9.le j14
 try have R11:=R11.le j14
 try have R14:=R14.le j14
 try have R16:=R16.le j14
 try have R18:=R18.le j14
 try have R23:=R23.le j14
 obtain⟨w14,rfl,R14⟩:=q14
 have R14s:=R14
 obtain⟨A14,c14,rfl,_⟩:=R14s;refine go 2 ?_;refine a0O (b9C _ sB a5R) rfl rfl (fun v16 I16 j16 q16=>?_)
 try have R7:=R7.le j16
 try have R9:=R9.le j16
 try have R11:=R11.le j16
 try have R14:=R14.le j16
 try have R16:=R16.le j16
 try have R18:=R18.le j16
 try have R23:=R23.le j16
 obtain⟨w16,rfl,R16⟩:=q16
 have R16s:=R16
 obtain⟨A16,c16,rfl,_⟩:=R16s;refine go 2 ?_;refine a0O (b9C _ sW c0M) rfl rfl (fun v18 I18 j18 q18=>?_)
 try have R7:=R7.le j18
 try have R9:=R9.le j18
 try have R11:=R11.le j18
 try have R14:=R14.le j18
 try have R16:=R16.le j18
 try have R18:=R18.le j18
 try have R23:=R23.le j18
 obtain⟨w18,rfl,R18⟩:=q18
 have R18s:=R18
 obtain⟨A18,c18,rfl,_⟩:=R18s;refine go 2 ?_;refine a0d (c8o _ sA) rfl rfl ?_;refine go 2 ?_;refine a0d (c8o _ sB) rfl rfl ?_;refine go 1 ?_;refine a0c he he rfl rfl rfl rfl rfl rfl rfl (fun v23=>?_);refine a0l (l:=[c1d sA,c1d sB]) rfl rfl (.cons rfl (.one rfl)) (fun I23 j23 R23=>?_)
 try have R7:=R7.le j23
 try have R9:=R9.le j23
 try have R11:=R11.le j23
 try have R14:=R14.le j23
 try have R16:=R16.le j23
 try have R18:=R18.le j23
 try have R23:=R23.le j23
 have R23s:=R23
 obtain⟨A23,c23,rfl,_⟩:=R23s;refine go 1 ?_;refine a0t rfl (a0H (pl:=[(0,1),(1,1)]) he he rfl rfl) ?_;refine go 1 ?_;refine a0t rfl (a0H (pl:=[(0,1),(1,1),(2,1),(3,1),(4,1),(5,1),(6,1),(7,1),(8,6)]) he he rfl rfl) ?_;refine go 1 ?_;refine a0c he he rfl rfl rfl rfl rfl rfl rfl (fun v26=>?_);refine a0l (l:=[c7n sA 6]) rfl rfl (.one rfl) (fun I26 j26 R26=>?_)
 try have R7:=R7.le j26
 try have R9:=R9.le j26
 try have R11:=R11.le j26
 try have R14:=R14.le j26
 try have R16:=R16.le j26
 try have R18:=R18.le j26
 try have R23:=R23.le j26
 have R26s:=R26
 obtain⟨A26,c26,rfl,_⟩:=R26s;refine go 1 ?_;refine a0t rfl (a0H (pl:=[(0,1),(1,1)]) he he rfl rfl) ?_;refine go 1 ?_;refine b1T he he rfl rfl rfl rfl rfl rfl rfl (fun g28=>?_);refine a1Q (fun Ig28 jg28 cg28=>?_)
 try have R7:=R7.le jg28
 try have R9:=R9.le jg28
 try have R11:=R11.le jg28
 try have R14:=R14.le jg28
 try have R16:=R16.le jg28
 try have R18:=R18.le jg28
 try have R23:=R23.le jg28
 try have R26:=R26.le jg28
 have B28:=Flat.rda (l:=sxL) (.cons ⟨_,rfl,R14⟩ (.cons ⟨_,rfl,R16⟩ (.cons ⟨_,rfl,R18⟩ (.cons ⟨_,rfl,R23⟩ (.one ⟨_,rfl,R26⟩))))) cg28
 refine go 8 ?_;refine a0f ?_;refine a0p _ he rfl rfl rfl rfl rfl rfl ?_;refine go 4 ?_;refine a1F rfl ⟨_,_,_,rfl,m0,.inr ⟨_,he,rfl,rfl⟩⟩ rfl ?_;exact q_i ⟨_,_,rfl,R11,B28⟩
theorem c8q (I:IMap) :
    FnV Tryz.prog 15 #[] I (.bool true):=by
 refine enter Tryz.func15 Tryz.call15 rfl Tryz.ntmps15 rfl (fun w0=>?_);obtain⟨R,hR⟩:=b6m sxL;refine go 8 ?_;refine a0O (b8Z _) rfl rfl (fun v13 I13 j13 q13=>?_);obtain⟨vc,A,rfl,hvc,hA⟩:=q13
 have hv:RdS _ _ sxL:=⟨A,_,rfl,hA,Nat.le_refl _,by decide⟩
 refine go 4 ?_;refine a0j he rfl (fun g1=>?_);refine go 1 ?_;refine a0p _ he rfl rfl rfl rfl rfl (by simp[hvc.one]) ?_;refine go 8 ?_;refine a0O (d0M _ vc sxC hvc b6F _ sxL hv (by decide) b6D R hR sA 5) rfl rfl (fun v19 I19 j19 q19=>?_)
 try have hvc:=hvc.le j19
 try have hv:=hv.le j19
 try have hA:=hA.le j19
 try have hw19:=hw19.le j19
 try have hw25:=hw25.le j19
 try have hw31:=hw31.le j19
 try have hw37:=hw37.le j19
 rw[(b2r hR).1,d0w]at q19
 obtain⟨w19,rfl,hw19⟩:=q19;refine go 12 ?_;refine a0O (c6C _ vc sxC hvc b6F _ sxL hv (by decide) b6D R hR sW a5R 5) rfl rfl (fun v25 I25 j25 q25=>?_)
 try have hvc:=hvc.le j25
 try have hv:=hv.le j25
 try have hA:=hA.le j25
 try have hw19:=hw19.le j25
 try have hw25:=hw25.le j25
 try have hw31:=hw31.le j25
 try have hw37:=hw37.le j25
 rw[(b2r hR).2.2,d0x]at q25
 obtain⟨w25,rfl,hw25⟩:=q25;refine go 12 ?_;refine a0O (c6C _ vc sxC hvc b6F _ sxL hv (by decide) b6D R hR sW a5R 6) rfl rfl (fun v31 I31 j31 q31=>?_)
 try have hvc:=hvc.le j31
 try have hv:=hv.le j31
 try have hA:=hA.le j31
 try have hw19:=hw19.le j31
 try have hw25:=hw25.le j31
 try have hw31:=hw31.le j31
 try have hw37:=hw37.le j31
 rw[(b2r hR).2.2,d0y]at q31
 obtain⟨w31,rfl,hw31⟩:=q31;refine go 12 ?_;refine a0O (c0l _ vc sxC hvc b6F _ sxL hv (by decide) b6D R hR sB 6) rfl rfl (fun v37 I37 j37 q37=>?_)
 try have hvc:=hvc.le j37
 try have hv:=hv.le j37
 try have hA:=hA.le j37
 try have hw19:=hw19.le j37
 try have hw25:=hw25.le j37
 try have hw31:=hw31.le j37
 try have hw37:=hw37.le j37
 rw[(b2r hR).2.1,d0z]at q37
 obtain⟨w37,rfl,hw37⟩:=q37;refine go 10 ?_;refine o_v rfl (OV.cast (u:=.bool true) (b3L rfl rfl) (congrArg Value.bool (decide_eq_true (rfl)))) ?_;refine go 3 ?_;refine a0R rfl rfl rfl (a0t rfl (a0H (pl:=[(0,1),(1,1)]) he he rfl rfl) ?_);refine go 1 ?_;refine a0R rfl rfl rfl (a0t rfl (a0H (pl:=[(0,1),(1,1)]) he he rfl rfl) ?_);refine go 1 ?_;refine a0R rfl rfl rfl (a0c he he rfl rfl rfl rfl rfl rfl rfl (fun v46=>?_));refine a0l (l:=[(⟨a0Z,a0Z⟩:Plc),⟨sW,a5R⟩]) rfl rfl (.cons rfl (.one rfl)) (fun I46 j46 R46=>?_)
 try have hvc:=hvc.le j46
 try have hv:=hv.le j46
 try have hA:=hA.le j46
 try have hw19:=hw19.le j46
 try have hw25:=hw25.le j46
 try have hw31:=hw31.le j46
 try have hw37:=hw37.le j46
 refine go 1 ?_;refine a0R rfl rfl rfl (a0d (a7j _ _ _ hw19 _ _ R46 rfl) rfl rfl ?_);refine go 3 ?_;refine a1d (a0R rfl rfl rfl (a0t rfl (OV.cast (u:=.bool true) (b3L rfl rfl) (congrArg Value.bool (decide_eq_true (rfl)))) ?_));refine go 4 ?_;refine a0R rfl rfl rfl (a0c he he rfl rfl rfl rfl rfl rfl rfl (fun v55=>?_));refine a0l (l:=[sA,sB]) rfl rfl (.cons rfl (.one rfl)) (fun I55 j55 R55=>?_)
 try have hvc:=hvc.le j55
 try have hv:=hv.le j55
 try have hA:=hA.le j55
 try have hw19:=hw19.le j55
 try have hw25:=hw25.le j55
 try have hw31:=hw31.le j55
 try have hw37:=hw37.le j55
 refine go 1 ?_;refine a0R rfl rfl rfl (a0d (a4J _ _ _ hw25 _ _ R55 rfl) rfl rfl ?_);refine go 9 ?_;refine a1d (a0R rfl rfl rfl (a0t rfl (OV.cast (u:=.bool true) (b3L rfl rfl) (congrArg Value.bool (decide_eq_true (rfl)))) ?_));refine go 4 ?_;refine a0R rfl rfl rfl (a0c he he rfl rfl rfl rfl rfl rfl rfl (fun v65=>?_));refine b2u (ys:=[.string a0Z]++([.string sA]++[.string sB])) (rfl) ?_;refine a0l (l:=[a0Z,sA,sB]) rfl rfl (.cons rfl (.cons rfl (.one rfl))) (fun I65 j65 R65=>?_)
 try have hvc:=hvc.le j65
 try have hv:=hv.le j65
 try have hA:=hA.le j65
 try have hw19:=hw19.le j65
 try have hw25:=hw25.le j65
 try have hw31:=hw31.le j65
 try have hw37:=hw37.le j65
 refine go 1 ?_;refine a0R rfl rfl rfl (a0d (a4J _ _ _ hw31 _ _ R65 rfl) rfl rfl ?_);refine go 3 ?_;refine a1d (a0R rfl rfl rfl (a0t rfl (OV.cast (u:=.bool true) (b3L rfl rfl) (congrArg Value.bool (decide_eq_true (rfl)))) ?_));refine go 4 ?_;refine a0R rfl rfl rfl (a0c he he rfl rfl rfl rfl rfl rfl rfl (fun v74=>?_));refine a0l (l:=[sB,sW]) rfl rfl (.cons rfl (.one rfl)) (fun I74 j74 R74=>?_)
 try have hvc:=hvc.le j74
 try have hv:=hv.le j74
 try have hA:=hA.le j74
 try have hw19:=hw19.le j74
 try have hw25:=hw25.le j74
 try have hw31:=hw31.le j74
 try have hw37:=hw37.le j74
 refine go 1 ?_;refine a0R rfl rfl rfl (a0d (a4J _ _ _ hw37 _ _ R74 rfl) rfl rfl ?_);refine go 5 ?_;refine a0s rfl rfl ?_;exact c7J rfl
end Go.Proofs.YtdapmfkbpnjkmaaGreat
set_option linter.all false
namespace Go.Sx
open Go
section
variable {c:List Kind} {l:List Rep} {R:Nat→Nat} {p:ByteArray} {day:Int} {i k:Nat}
section
variable {S:List Plc×Int}
end
theorem c1x {i:Nat} (hi:i<l.length) (h:∀r∈l.take i,a0w r=true) (h2:a0w l[i]=true):∀r∈l.take (i+1),a0w r=true:=fun r hr=>by
 rw[←a0i hi]at hr
 rcases List.mem_append.1 hr with hr|hr
 ·exact h r hr
 ·rw[List.mem_singleton.1 hr];exact h2
theorem c0W {L:List (List Part)} {f:List Part→ByteArray} (hi:i<L.length):a9Z sLt ((L.take (i+1)).map f)=a4B sLt (f L[i]) (a9Z sLt ((L.take i).map f)):=by
 have h:=b3C (lt:=sLt) (l:=L.map f) (i:=i) (by simpa using hi)
 simpa[List.map_take]using h
theorem b4U {α:Type} [DecidableEq α] {lt:α→α→Bool} {f:List Part→α} {L:List (List Part)}:(a9Z lt ((L.take i).map f)).length≤i:=by
 refine Nat.le_trans (c3T _) ?_;rw[List.length_map,List.length_take];omega
end
end Go.Sx
set_option linter.all false
namespace Go.Sx
open Go
def csF (c:List Kind) (l own:List Rep) (p:ByteArray) (day:Int):List (List Part)×Int:=if a6h c l own≠0 then ([],a6h c l own) else if a9d c own p day=[] then ([],2) else (a9d c own p day,0)
section
variable {c:List Kind} {l own:List Rep} {p y z:ByteArray} {day:Int} {s:List Part}
theorem a6n (h:a6h c l own≠0):csF c l own p day=([],a6h c l own):=by unfold csF;rw[if_pos h]
theorem c4G (h:a6h c l own=0) (h2:a9d c own p day=[]):csF c l own p day=([],2):=by unfold csF;rw[if_neg (by simp[h]),if_pos h2]
theorem c8h (h:a6h c l own=0) (h2:a9d c own p day≠[]):csF c l own p day=(a9d c own p day,0):=by unfold csF;rw[if_neg (by simp[h]),if_neg h2]
theorem b0S {α:Type} [DecidableEq α] {lt:α→α→Bool} {f:List Part→α}:a7V lt f c l own p day=(a9Z lt ((csF c l own p day).1.map f),(csF c l own p day).2):=by
 unfold a7V csF
 split
 ·rfl
 ·split<;>rfl
theorem b8L:(csF c l own p day).1.length≤4096:=by
 unfold csF
 split
 ·simp
 ·split
  ·simp
  ·exact b1n
theorem b8M (h:s∈(csF c l own p day).1):VS c s∧a0E s p=some (b1Z s p)∧s.length≤own.length:=by
 unfold csF at h
 split at h
 ·cases h
 ·rename_i h0
  have h0:a6h c l own=0:=by simpa using h0
  split at h
  ·cases h
  ·obtain⟨a,b⟩:=c1W h0 h;obtain⟨t,_,hC,_⟩:=(b8B h0).1 h;exact⟨a,b,hC.len⟩
def b7u (y z:ByteArray) (s:List Part):ByteArray:=s.foldl (fun n x=>if a7m y z x then x.name else n) a0Z
theorem b5X {w:ByteArray} {L:List Part}:∀(a:ByteArray),(∀x∈L,a7m y z x=true→x.name=w)→((∃x∈L,a7m y z x=true)∨a=w)→L.foldl (fun n x=>if a7m y z x then x.name else n) a=w:=by
 induction L with
 |nil=>intro a _ h;rcases h with ⟨x,hx,_⟩|h;cases hx;exact h
 |cons x L ih=>
  intro a h1 h2;rw[List.foldl_cons];refine ih _ (fun y hy=>h1 y (by simp[hy])) ?_
  by_cases hx:a7m y z x=true
  ·right;rw[if_pos hx];exact h1 x (by simp) hx
  ·rw[if_neg hx]
   rcases h2 with ⟨w,hw,h3⟩|h2
   ·rcases List.mem_cons.1 hw with rfl|hw
    ·exact absurd h3 hx
    ·exact .inl ⟨w,hw,h3⟩
   ·exact .inr h2
theorem c2V (h:VS c s) (hy:y≠a0Z):b7u y z s=a3z y z s:=by
 unfold b7u
 cases hf:s.find? (a7m y z) with
 |none=>
  have e:a3z y z s=a0Z:=by unfold a3z;rw[hf];rfl
  rw[e];exact b5X _ (fun x hx h2=>absurd h2 (List.find?_eq_none.1 hf x hx)) (.inr rfl)
 |some w=>
  have e:a3z y z s=w.name:=by unfold a3z;rw[hf];rfl
  rw[e]
  have h1:=List.find?_some hf
  have h2:=List.mem_of_find?_eq_some hf
  refine b5X _ (fun x hx h3=>?_) (.inl ⟨w,h2,h1⟩)
  simp only[a7m,Bool.and_eq_true,decide_eq_true_eq]at h1 h3
  rw[h.apart x hx w h2 (by rw[h3.1];exact hy) (by rw[h3.1,h1.1]) (by rw[h3.2,h1.2])]
theorem b1U {i:Nat} (hi:i<s.length):b7u y z (s.take (i+1))=if a7m y z s[i] then s[i].name else b7u y z (s.take i):=by
 unfold b7u;rw[←a0i hi,List.foldl_append];rfl
def b3Q (l:List Part):Nat→ByteArray→Bool
 |0,_=>false
 |k+1,n=>(a0E l n).isSome&&(decide (upP l n=a0Z)||b3Q l k (upP l n))
theorem c1A {k m:Nat} {n:ByteArray} (hk:¬m≤k) (h:(a0E s n).isSome=false):b3Q s (m-k) n=false:=by
 obtain⟨a,ha⟩:∃a,m-k=a+1:=⟨m-k-1,by omega⟩;rw[ha];simp[b3Q,h]
theorem c4h {k m:Nat} {n:ByteArray} (hk:¬m≤k) (h:(a0E s n).isSome=true) (h0:upP s n=a0Z):b3Q s (m-k) n=true:=by
 obtain⟨a,ha⟩:∃a,m-k=a+1:=⟨m-k-1,by omega⟩;rw[ha];simp[b3Q,h,h0]
theorem c1z {k m:Nat} {n:ByteArray} (hk:¬m≤k) (h:(a0E s n).isSome=true) (h0:¬upP s n=a0Z):b3Q s (m-k) n=b3Q s (m-(k+1)) (upP s n):=by
 obtain⟨a,ha⟩:∃a,m-k=a+1:=⟨m-k-1,by omega⟩;rw[ha,show m-(k+1)=a by omega];simp[b3Q,h,h0]
theorem c4g {k m:Nat} {n:ByteArray} (hk:m≤k):b3Q s (m-k) n=false:=by rw[Nat.sub_eq_zero_of_le hk];rfl
theorem c5j (h:VS c s):∀(k:Nat) (n:ByteArray) (q:Part),a0E s n=some q→hiN c s q<k→b3Q s k n=true∧∃hne:a6g s k n≠[],(a6g s k n).getLast hne=rootGo s k n
 |0,_,_,_,h1=>absurd h1 (Nat.not_lt_zero _)
 |k+1,n,q,hq,h1=>by
  have hu:upP s n=q.into:=by unfold upP;rw[hq];rfl
  by_cases hi:q.into=a0Z
  ·refine⟨by simp[b3Q,hq,hu,hi],by simp[a6g,hq,hu,hi],?_⟩
   simp[a6g,rootGo,hq,hu,hi]
  ·obtain⟨q',h3,h4⟩:=b9s h hq hi;obtain⟨a,hne,b⟩:=c5j h k q.into q' h3 (by omega)
   have e:a6g s (k+1) n=n::a6g s k q.into:=by simp[a6g,hq,hu,hi]
   refine⟨by simp[b3Q,hq,hu,a],by rw[e];simp,?_⟩
   simp only[e,List.getLast_cons hne,b]
   conv=>rhs;unfold rootGo
   simp[hq,hi]
theorem c4k (h:VS c s) (hp:a0E s p=some (b1Z s p)):b3Q s (s.length+1) p=true∧0<(a6g s (s.length+1) p).length∧∀h,(a6g s (s.length+1) p)[(a6g s (s.length+1) p).length-1]'h=a7k p s:=by
 have h1:=c8s (c:=c) hp
 obtain⟨a,hne,b⟩:=c5j h (s.length+1) p _ hp (by omega);refine⟨a,List.length_pos_iff.2 hne,fun h2=>?_⟩;rw[←List.getLast_eq_getElem hne,b];exact b3t h _ _ p _ hp (by omega) h1
end
section
variable {l:List Rep} {R:Nat→Nat} {p:ByteArray}
def c7R (l:List Rep) (R:Nat→Nat) (p:ByteArray) (i:Nat):Prop:=∀r∈(a1k R l.length).take i,∀k∈a2c R l.length r,∀h:k<l.length,¬nm l[k] p
theorem c6p {i:Nat} (hi:i<(a1k R l.length).length) (h:c7R l R p i) (h2:∀k∈a2c R l.length (a1k R l.length)[i],∀h:k<l.length,¬nm l[k] p):c7R l R p (i+1):=fun r hr=>by
 rw[←a0i hi]at hr
 rcases List.mem_append.1 hr with hr|hr
 ·exact h r hr
 ·rw[List.mem_singleton.1 hr];exact h2
theorem d0p {k:Nat} {M:List Nat} (hk:k<M.length) (hl:M[k]<l.length) (h:∀x∈M.take k,∀h:x<l.length,¬nm l[x] p) (h2:¬nm l[M[k]] p):∀x∈M.take (k+1),∀h:x<l.length,¬nm l[x] p:=fun x hx=>by
 rw[←a0i hk]at hx
 rcases List.mem_append.1 hx with hx|hx
 ·exact h x hx
 ·rw[List.mem_singleton.1 hx];exact fun _=>h2
theorem c8M (hR:Rts l R) {i k:Nat} (hi:i<(a1k R l.length).length) (hk:k<(a2c R l.length (a1k R l.length)[i]).length) (hl:(a2c R l.length (a1k R l.length)[i])[k]<l.length) (hn:nm l[(a2c R l.length (a1k R l.length)[i])[k]] p):ofN l R p=a2c R l.length (a1k R l.length)[i]:=by
 rw[b4x hR hl hn,(b1O.1 (List.getElem_mem hk)).2]
theorem c6w (hR:Rts l R) (h:c7R l R p (a1k R l.length).length):ofN l R p=[]:=by
 refine b9W fun k hk=>?_
 rw[c7R,List.take_length]at h
 exact h (R k) (b9G.2 ⟨Nat.lt_of_le_of_lt (hR.le k) hk,hR.idem k⟩) k (b1O.2 ⟨hk,rfl⟩) hk
theorem b8n {ns:List ByteArray} {r:Rep} (hn:a5v r ns):(ns.any fun x=>decide (x∈[p]))=true↔nm r p:=by
 rw[List.any_eq_true,←b9P hn]
 constructor
 ·rintro⟨x,hx,h⟩
  have:x=p:=by simpa using h
  rwa[←this]
 ·intro h;exact⟨p,h,by simp⟩
end
theorem c8V {a b:Plc} (h:sLt a.into b.into=true):a2h a b=true:=by simp[a2h,h]
theorem c8W {a b:Plc} (h:a.into=b.into) (h2:sLt a.slot b.slot=true):a2h a b=true:=by simp[a2h,h,h2]
theorem c8X {a b:Plc} (h:sLt a.into b.into=false) (h2:¬a.into=b.into):¬a2h a b=true:=by simp[a2h,h,h2]
theorem c8Y {a b:Plc} (h:sLt a.into b.into=false) (h2:sLt a.slot b.slot=false):¬a2h a b=true:=by simp[a2h,h,h2]
theorem c7X {s:List Part} {p:ByteArray}:decide (a5f (fun q:Part=>decide (q.name=p)) s≥0)=(a0E s p).isSome:=by
 rcases a2z (fun q:Part=>decide (q.name=p)) s with ⟨h,h2⟩|⟨i,hi,h,h2⟩
 ·rw[show a0E s p=none from h2];simp;omega
 ·rw[show a0E s p=some s[i] from h2,h];simp
theorem c3U {L:List (List Part)} {f:List Part→Plc} {i:Nat} (hi:i<L.length):a9Z a2h ((L.take (i+1)).map f)=a4B a2h (f L[i]) (a9Z a2h ((L.take i).map f)):=by
 have h:=b3C (lt:=a2h) (l:=L.map f) (i:=i) (by simpa using hi)
 simpa[List.map_take]using h
theorem b8s {l:List Rep} {i:Nat} (hi:i<l.length) (h:a0w l[i]=false):l.any (fun r=>!a0w r)=true:=List.any_eq_true.2 ⟨_,List.getElem_mem hi,by simp[h]⟩
theorem c7C {c:List Kind} {s:List Part} {p:ByteArray} {q:Part} (h:VS c s) (hp:a0E s p=some q):p≠a0Z:=by
 obtain⟨hm,hn⟩:=(a1s h.inc).1 hp
 have hr:=h.right q hm
 rintro rfl
 simp[a3G,a3E,hn,show a2k a0Z=false by decide]at hr
end Go.Sx
namespace Go.Proofs.YtdapmfkbpnjkmaaGreat
open Go Go.Sx
set_option linter.all false
set_option maxRecDepth 20000
set_option maxHeartbeats 4000000
theorem c6P (I:IMap) (v:Value) (l:List Rep) (hv:RdS I v l) (hl:l.length≤1000000) (hsl:∀r∈l,∀e∈r.options,SmE e) (R:Nat→Nat) (hRt:Rts l R) (p:ByteArray) :
    FnI Tryz.prog 48 #[v,.string p] I (fun u J=>RdS J u (nI (ofN l R p))):=by
 have hv0:=hv
 obtain⟨A,c0,rfl,hA,hc,hm⟩:=hv;refine enter Tryz.func48 Tryz.call48 rfl Tryz.ntmps48 rfl (fun w0=>?_);refine go 9 ?_;refine a0O (b7P _ _ l hv0 hl hsl R hRt) rfl rfl (fun v9 I9 j9 q9=>?_)
 try have hv0:=hv0.le j9
 try have hA:=hA.le j9
 try have hCA:=hCA.le j9
 try have q35:=q35.le j9
 have q9s:=q9
 obtain⟨CA,cc,rfl,hCA,_,_⟩:=q9s
 have hcl0:((a5J R l.length).map nI).length=(a1k R l.length).length:=by simp[a5J]
 refine go 10 ?_
 refine a1z ((0:Nat)) (_) (fun i J=>J)
  (fun i J=>[(0,.slice A l.length c0),(1,.string p),(5,.slice CA ((a5J R l.length).map nI).length cc),(6,.int .i64 ((i:Nat):Int))])
  (fun i J=>[])
  (fun i J=>i≤(a1k R l.length).length∧ILe I9 J∧c7R l R p i)
  (fun i J=>(a1k R l.length).length-i) ⟨Nat.zero_le _,ILe.refl _,fun r hr=>by simp at hr⟩ rfl sb rfl ?_
 intro i J ⟨hi,hJ,hN⟩
 have hv0:=hv0.le hJ
 have hA:=hA.le hJ
 have hCA:=hCA.le hJ
 refine go 5 ?_;refine o_v rfl (OV.cast (u:=.int .i64 (((a1k R l.length).length:Nat):Int)) (a3V he rfl) (congrArg (Value.int .i64) (by rw[hcl0]))) ?_;refine go 3 ?_;refine cb rfl (fun h13 p13=>?_) (fun h13 p13=>?_)
 ·have hlt:i<(a1k R l.length).length:=by omega
  have hrl:=b6n (R:=R) (n:=l.length)
  refine go 10 ?_
  refine a1z ((0:Nat)) (_) (fun k M=>M)
   (fun k M=>[(0,.slice A l.length c0),(1,.string p),(5,.slice CA ((a5J R l.length).map nI).length cc),(6,.int .i64 ((i:Nat):Int)),(7,.int .i64 ((k:Nat):Int))])
   (fun k M=>[])
   (fun k M=>k≤(a2c R l.length (a1k R l.length)[i]).length∧ILe J M∧∀x∈(a2c R l.length (a1k R l.length)[i]).take k,∀h:x<l.length,¬nm l[x] p)
   (fun k M=>(a2c R l.length (a1k R l.length)[i]).length-k) ⟨Nat.zero_le _,ILe.refl _,fun x hx=>by simp at hx⟩ rfl sb rfl ?_
  intro k M ⟨hk,hM,hnk⟩
  have hv0:=hv0.le hM
  have hA:=hA.le hM
  have hCA:=hCA.le hM
  refine go 6 ?_;obtain⟨b19,o19,w19,e19,c19,r19⟩:=RdA.at_ hCA (i:=i) (by omega);rw[b4c hlt]at r19
  obtain⟨q19,rfl,S19,d19,rfl,hS19,hd19,hm19⟩:=r19;refine o_v rfl (a0h he rfl rfl e19 (i) (by omega) (by omega)) ?_;refine o_v rfl (OV.cast (u:=.slice S19 (a2c R l.length (a1k R l.length)[i]).length d19) (a0K he rfl (c19 0 _ rfl)) (by rw[a4S])) ?_;refine go 4 ?_;refine cb rfl (fun h22 p22=>?_) (fun h22 p22=>?_)
  ·have hlk:k<(a2c R l.length (a1k R l.length)[i]).length:=by omega
   have hcl:(a2c R l.length (a1k R l.length)[i])[k]<l.length:=b9J (List.getElem_mem hlk)
   have hmb:=b9I (R:=R) (n:=l.length) (r:=(a1k R l.length)[i])
   refine go 9 ?_;obtain⟨b28,o28,w28,e28,c28,r28⟩:=RdA.at_ hCA (i:=i) (by omega);rw[b4c hlt]at r28
   obtain⟨q28,rfl,S28,d28,rfl,hS28,hd28,hm28⟩:=r28;refine o_v rfl (a0h he rfl rfl e28 (i) (by omega) (by omega)) ?_;refine o_v rfl (OV.cast (u:=.slice S28 (a2c R l.length (a1k R l.length)[i]).length d28) (a0K he rfl (c28 0 _ rfl)) (by rw[a4S])) ?_;refine go 1 ?_;obtain⟨b31,o31,w31,e31,c31,r31⟩:=RdA.at_ hS28 (i:=k) (by first|exact hlk|(rw[a4S];exact hlk));rw[c6n hlk]at r31
   obtain rfl:=r31;refine o_v rfl (a0h he rfl rfl e31 (k) (by omega) (by first|exact hlk|(rw[a4S];exact hlk))) ?_;refine o_v rfl (a0K he rfl (c31 0 _ rfl)) ?_;obtain⟨b33,o33,w33,e33,c33,r33⟩:=RdA.at_ hA (i:=(a2c R l.length (a1k R l.length)[i])[k]) hcl;obtain⟨q33,rfl,S33,d33,rfl,hS33,hd33,hm33⟩:=r33;refine o_v rfl (a0h he rfl rfl e33 ((a2c R l.length (a1k R l.length)[i])[k]) (by omega) hcl) ?_;refine o_v rfl (a0G he rfl c33 rfl) ?_;refine go 1 ?_;refine a0O (b0M _ l[(a2c R l.length (a1k R l.length)[i])[k]] S33 d33 ⟨_,_,rfl,hS33,hd33,hm33⟩ (hsl _ (List.getElem_mem hcl))) rfl rfl (fun v35 I35 j35 q35=>?_)
   try have hv0:=hv0.le j35
   try have hA:=hA.le j35
   try have hCA:=hCA.le j35
   try have q35:=q35.le j35
   obtain⟨ns,q35,hno⟩:=q35;refine go 2 ?_;refine a0c he he rfl rfl rfl rfl rfl rfl rfl (fun v37=>?_);refine a0l (l:=[p]) rfl rfl ((.one rfl)) (fun I37 j37 R37=>?_)
   try have hv0:=hv0.le j37
   try have hA:=hA.le j37
   try have hCA:=hCA.le j37
   try have q35:=q35.le j37
   refine go 1 ?_;refine a0d (a9K _ _ ns q35 _ [p] R37) rfl rfl ?_;refine go 2 ?_;refine cb rfl (fun h38 p38=>?_) (fun h38 p38=>?_)
   ·refine go 4 ?_;obtain⟨b41,o41,w41,e41,c41,r41⟩:=RdA.at_ hCA (i:=i) (by omega);rw[b4c hlt]at r41
    obtain⟨q41,rfl,S41,d41,rfl,hS41,hd41,hm41⟩:=r41;refine o_v rfl (a0h he rfl rfl e41 (i) (by omega) (by omega)) ?_;refine o_v rfl (OV.cast (u:=.slice S41 (a2c R l.length (a1k R l.length)[i]).length d41) (a0K he rfl (c41 0 _ rfl)) (by rw[a4S])) ?_;refine go 13 ?_;refine a0s rfl rfl ?_;exact q_i (by rw[c8M hRt hlt hlk hcl ((b8n hno).1 h38)];exact⟨_,_,by rw[a4S],hS41,hd41,hm41⟩)
   ·refine go 9 ?_;exact a0X (k+1) (_) ⟨by omega,hM.trans (j35.trans j37),d0p hlk hcl hnk fun hn=>by rw[(b8n hno).2 hn]at h38;cases h38⟩ (by omega) rfl sb rfl
  ·obtain rfl:k=(a2c R l.length (a1k R l.length)[i]).length:=by omega
   rw[List.take_length]at hnk
   refine go 12 ?_;exact a0X (i+1) (_) ⟨by omega,hJ.trans hM,c6p hlt hN hnk⟩ (by omega) rfl sb rfl
 ·obtain rfl:i=(a1k R l.length).length:=by omega
  refine go 11 ?_;refine a0s rfl rfl ?_;exact q_i (by rw[c6w hRt hN];exact RdS.nil')
theorem c0z (I:IMap) (v:Value) (l:List Rep) (hv:RdS I v l) (w:Value) (D:List Nat) (hw:RdS I w (nI D)) (hC:∀i∈D,i<l.length) (hC6:D.length≤1000000) :
    FnI Tryz.prog 111 #[v,w] I (fun u J=>RdS J u (a4O l D)):=by
 have hv0:=hv
 obtain⟨A,c0,rfl,hA,hc,hm⟩:=hv;obtain⟨B,c1,rfl,hB,hcb,hmb⟩:=hw;rw[a4S]at hcb ⊢
 refine enter Tryz.func111 Tryz.call111 rfl Tryz.ntmps111 rfl (fun w0=>?_);refine go 7 ?_;refine a1f 64 2 ?_;refine go 10 ?_
 refine a2L ((0:Nat)) (_) ([]) (fun i v5 xs=>I)
  (fun i v5 xs=>[(0,.slice A l.length c0),(1,.slice B D.length c1),(5,v5),(6,.int .i64 ((i:Nat):Int))])
  (fun i v5 xs=>[.row v5 64 2 i xs])
  (fun i v5 xs=>i≤D.length∧Flat I xs (a4O l (D.take i)))
  (fun i v5 xs=>D.length-i) ⟨Nat.zero_le _,.nil⟩ rfl sb rfl ?_
 intro i v5 xs ⟨hi,hF⟩;refine go 9 ?_;refine cb rfl (fun h10 p10=>?_) (fun h10 p10=>?_)
 ·have hlt:i<D.length:=by omega
  have hcl:=hC _ (List.getElem_mem hlt)
  refine go 9 ?_;obtain⟨b17,o17,w17,e17,c17,r17⟩:=RdA.at_ hB (i:=i) (by first|exact hlt|(rw[a4S];exact hlt));rw[c6n hlt]at r17
  obtain rfl:=r17;refine o_v rfl (a0h he rfl rfl e17 (i) (by omega) (by first|exact hlt|(rw[a4S];exact hlt))) ?_;refine o_v rfl (a0K he rfl (c17 0 _ rfl)) ?_;obtain⟨b19,o19,w19,e19,c19,r19⟩:=RdA.at_ hA (i:=D[i]) hcl;obtain⟨q19,rfl,S19,d19,rfl,hS19,hd19,hm19⟩:=r19;refine o_v rfl (a0h he rfl rfl e19 (D[i]) (by omega) hcl) ?_;refine o_v rfl (a0G he rfl c19 rfl) ?_;refine go 1 ?_;refine a0c he he rfl rfl rfl rfl rfl rfl rfl (fun v21=>?_);refine go 1 ?_;refine a0f ?_;refine a0v he he rfl rfl rfl rfl rfl (by omega) (by omega) rfl (fun v22=>?_);refine go 10 ?_;refine a0f ?_;refine a0b ?_;exact a1M (i+1) (_) (_) ⟨by omega,by rw[←a0i hlt,a8i,a4x hcl];exact hF.append (.one ⟨_,rfl,⟨_,_,rfl,hS19,hd19,hm19⟩⟩)⟩ (by omega) rfl sb rfl
 ·obtain rfl:i=D.length:=by omega
  rw[List.take_length]at hF
  refine go 7 ?_;refine a0l (l:=a4O l D) rfl (by rw[a5k hC]) (hF) (fun Ip jp Rp=>?_);refine go 5 ?_;refine a0s rfl rfl ?_;exact q_i Rp
theorem a7R (I:IMap) (vc:Value) (c:List Kind) (hvc:RdS I vc c) (hsc:SmC c) (v:Value) (l:List Rep) (hv:RdS I v l) (hl:l.length≤1000000) (hsl:∀r∈l,∀e∈r.options,SmE e) (R:Nat→Nat) (hRt:Rts l R) (p:ByteArray) (day:Int) :
    FnI Tryz.prog 58 #[.agg #[vc],v,.string p,.int .i64 (day)] I (fun u J=>∃w,u = .tuple #[w,.int .i64 (csF c l (a1V l R p) p day).2]∧RdS J w (csF c l (a1V l R p) p day).1):=by
 have hv0:=hv
 obtain⟨A,c0,rfl,hA,hc,hm⟩:=hv;refine enter Tryz.func58 Tryz.call58 rfl Tryz.ntmps58 rfl (fun w0=>?_);refine go 3 ?_;refine a0B _ rfl rfl rfl (fun g4=>?_);refine go 9 ?_;refine a0d (a8P _ vc c hvc hsc) rfl rfl ?_;refine go 3 ?_;refine cb rfl (fun h23 p23=>?_) (fun h23 p23=>?_)
 ·refine go 8 ?_;refine a1F rfl rfl rfl ?_
  have e:=c4B (l:=l) (own:=(a1V l R p)) (show a1g c=false by rw[a3W];simpa using h23)
  exact q_i ⟨_,by rw[a6n (by rw[e];decide),e],by rw[a6n (by rw[e];decide)];exact RdS.nil'⟩
 ·have hC:a1g c=true:=by rw[a3W];simpa using h23
  refine go 9 ?_
  refine a0Q (α:=Nat) 0 (fun i=>I)
   (fun i=>[(1,.slice A l.length c0),(2,.string p),(3,.int .i64 (day)),(4,.pointer (some ⟨g4,0,none⟩)),(10,.int .i64 ((i:Nat):Int))])
   (fun i=>[.blk g4 24 [vc]])
   (fun i=>i≤l.length∧∀r∈l.take i,a0w r=true)
   (fun i=>l.length-i) ⟨Nat.zero_le _,fun r hr=>by simp at hr⟩ rfl sb rfl ?_
  intro i ⟨hi,hn⟩;refine go 9 ?_;refine cb rfl (fun h27 p27=>?_) (fun h27 p27=>?_)
  ·have hlt:i<l.length:=by omega
   refine go 8 ?_;obtain⟨b32,o32,w32,e32,c32,r32⟩:=RdA.at_ hA (i:=i) (by omega);obtain⟨q32,rfl,S32,d32,rfl,hS32,hd32,hm32⟩:=r32;refine o_v rfl (a0h he rfl rfl e32 (i) (by omega) (by omega)) ?_;refine o_v rfl (a0G he rfl c32 rfl) ?_;refine go 1 ?_;refine a0d (a6e _ l[i] S32 d32 ⟨_,_,rfl,hS32,hd32,hm32⟩ (hsl _ (List.getElem_mem hlt))) rfl rfl ?_;refine go 3 ?_;refine cb rfl (fun h35 p35=>?_) (fun h35 p35=>?_)
   ·refine go 12 ?_;refine a1F rfl rfl rfl ?_
    have e:=c4C (own:=(a1V l R p)) hC (b8s hlt (by simpa using h35))
    exact q_i ⟨_,by rw[a6n (by rw[e];decide),e],by rw[a6n (by rw[e];decide)];exact RdS.nil'⟩
   ·refine go 9 ?_;exact a0M (i+1) ⟨by omega,c1x hlt hn (by simpa using h35)⟩ (by omega) rfl sb rfl
  ·obtain rfl:i=l.length:=by omega
   rw[List.take_length]at hn
   have hV:=b8m.2 hn
   have hcl2:=a6x (l:=l) (R:=R) (p:=p)
   refine go 11 ?_;refine a0O (c6P _ _ l hv0 hl hsl R hRt p) rfl rfl (fun v39 I39 j39 q39=>?_)
   try have hvc:=hvc.le j39
   try have hv0:=hv0.le j39
   try have hA:=hA.le j39
   try have Ro:=Ro.le j39
   try have hAA:=hAA.le j39
   try have hz68:=hz68.le j39
   try have hwb:=hwb.le j39
   try have hF:=hF.le j39
   refine go 1 ?_;refine a0O (c0z _ _ l hv0 _ (ofN l R p) q39 (fun i hi=>b7v hi) (by rw[←a5k (l:=l) fun i hi=>b7v hi];exact Nat.le_trans a6x hl)) rfl rfl (fun v40 I40 j40 q40=>?_)
   try have hvc:=hvc.le j40
   try have hv0:=hv0.le j40
   try have hA:=hA.le j40
   try have Ro:=Ro.le j40
   try have hAA:=hAA.le j40
   try have hz68:=hz68.le j40
   try have hwb:=hwb.le j40
   try have hF:=hF.le j40
   have Ro:RdS _ _ (a1V l R p):=q40
   have Ros:=Ro
   obtain⟨A11,c11,rfl,_,_,_⟩:=Ros;refine go 11 ?_;refine cb rfl (fun h43 p43=>?_) (fun h43 p43=>?_)
   ·refine go 8 ?_;refine a1F rfl rfl rfl ?_
    have e:=c4D (own:=(a1V l R p)) hC hV (List.eq_nil_of_length_eq_zero (by omega))
    exact q_i ⟨_,by rw[a6n (by rw[e];decide),e],by rw[a6n (by rw[e];decide)];exact RdS.nil'⟩
   ·have hne:(a1V l R p)≠[]:=fun e=>by rw[e]at h43;simp at h43
    have hce:=c4E (own:=(a1V l R p)) hC hV hne
    refine go 7 ?_;refine a0O (c3t _ vc c hvc hsc _ (a1V l R p) Ro (Nat.le_trans hcl2 hl) (fun r hr=>hsl r (a7O hr)) 4096) rfl rfl (fun v47 I47 j47 q47=>?_)
    try have hvc:=hvc.le j47
    try have hv0:=hv0.le j47
    try have hA:=hA.le j47
    try have Ro:=Ro.le j47
    try have hAA:=hAA.le j47
    try have hz68:=hz68.le j47
    try have hwb:=hwb.le j47
    try have hF:=hF.le j47
    obtain⟨w47,rfl,hw47⟩:=q47;obtain⟨AA,ca,rfl,hAA,hca,hma⟩:=hw47;refine go 14 ?_;refine cb rfl (fun h51 p51=>?_) (fun h51 p51=>?_)
    ·refine go 9 ?_;refine a1F rfl rfl rfl ?_
     have e:=hce
     rw[if_pos p51]at e
     have e2:(csF c (l) (a1V l R p) p day).2=(a2m c (a1V l R p) 4096).2:=by rw[a6n (by rw[e];exact p51)];exact e
     exact q_i ⟨_,by rw[e2];rfl,by rw[a6n (by rw[e];exact p51)];exact RdS.nil'⟩
    ·have h00:(a2m c (a1V l R p) 4096).2=0:=by simpa using h51
     refine go 10 ?_;refine cb rfl (fun h55 p55=>?_) (fun h55 p55=>?_)
     ·refine go 8 ?_;refine a1F rfl rfl rfl ?_
      have e:=hce.trans (by rw[if_neg (by simp[h00]),if_pos (by omega)])
      exact q_i ⟨_,by rw[a6n (by rw[e];decide),e],by rw[a6n (by rw[e];decide)];exact RdS.nil'⟩
     ·have h0:a6h c l (a1V l R p)=0:=hce.trans (by rw[if_neg (by simp[h00]),if_neg (by omega)])
      have hal:(a2m c (a1V l R p) 4096).1.length≤4096:=by have h:=(b0p (c:=c) (l:=(a1V l R p)) (a:=4096) (b:=4096) (by omega) (by omega) (Int.le_refl _)).2.2.1;omega
      refine go 4 ?_;refine a1f 53 1 ?_;refine go 10 ?_
      refine a3B ((0:Nat)) (_) ([]) (_) (fun i v14 xs J=>J)
       (fun i v14 xs J=>[(2,.string p),(3,.int .i64 (day)),(4,.pointer (some ⟨g4,0,none⟩)),(11,.slice A11 (a1V l R p).length c11),(12,.slice AA (a2m c (a1V l R p) 4096).1.length ca),(14,v14),(15,.int .i64 ((i:Nat):Int))])
       (fun i v14 xs J=>[.row v14 53 1 (a7u c (a1V l R p) p day ((a2m c (a1V l R p) 4096).1.take i)).length xs,.blk g4 24 [vc]])
       (fun i v14 xs J=>i≤(a2m c (a1V l R p) 4096).1.length∧ILe I47 J∧Flat J xs (a7u c (a1V l R p) p day ((a2m c (a1V l R p) 4096).1.take i)))
       (fun i v14 xs J=>(a2m c (a1V l R p) 4096).1.length-i) ⟨Nat.zero_le _,ILe.refl _,.nil⟩ rfl sb rfl ?_
      intro i v14 xs J ⟨hi,hJ,hF⟩
      have hvc:=hvc.le hJ
      have Ro:=Ro.le hJ
      have hAA:=hAA.le hJ
      have hcl:=b8A (c:=c) (own:=(a1V l R p)) (p:=p) (day:=day) hi
      refine go 9 ?_;refine cb rfl (fun h59 p59=>?_) (fun h59 p59=>?_)
      ·have hlt:i<(a2m c (a1V l R p) 4096).1.length:=by omega
       refine go 9 ?_;obtain⟨b66,o66,w66,e66,c66,r66⟩:=RdA.at_ hAA (i:=i) (by omega);obtain⟨q66,rfl,S66,d66,rfl,hS66,hd66,hm66⟩:=r66;refine o_v rfl (a0h he rfl rfl e66 (i) (by omega) (by omega)) ?_;refine o_v rfl (a0K he rfl (c66 0 _ rfl)) ?_;refine go 1 ?_;refine a0O (a9J _ _ (a1V l R p) Ro (Nat.le_trans hcl2 hl) (fun r hr=>hsl r (a7O hr)) _ (a2m c (a1V l R p) 4096).1[i] ⟨_,_,rfl,hS66,hd66,hm66⟩) rfl rfl (fun v68 I68 j68 q68=>?_)
       try have hvc:=hvc.le j68
       try have hv0:=hv0.le j68
       try have hA:=hA.le j68
       try have Ro:=Ro.le j68
       try have hAA:=hAA.le j68
       try have hz68:=hz68.le j68
       try have hwb:=hwb.le j68
       try have hF:=hF.le j68
       obtain⟨z68,rfl,hz68⟩:=q68;refine go 13 ?_;refine a0O (c6N _ vc c hvc hsc _ (a1L (a1V l R p) (a2m c (a1V l R p) 4096).1[i]).1 hz68 (Nat.le_trans (a9D (a1V l R p) (a2m c (a1V l R p) 4096).1[i]) (Nat.le_trans hcl2 hl)) (a9E (fun r hr=>hsl r (a7O hr))) day) rfl rfl (fun v75 I75 j75 q75=>?_)
       try have hvc:=hvc.le j75
       try have hv0:=hv0.le j75
       try have hA:=hA.le j75
       try have Ro:=Ro.le j75
       try have hAA:=hAA.le j75
       try have hz68:=hz68.le j75
       try have hwb:=hwb.le j75
       try have hF:=hF.le j75
       obtain⟨wb,rfl,hwb⟩:=q75;refine go 5 ?_;refine a0j he rfl (fun g18=>?_);refine go 1 ?_;refine a0p _ he rfl rfl rfl rfl rfl (by simp[RdS.one hwb]) ?_;refine go 9 ?_;refine a0d (a9I _ _ (b1p c (a1V l R p) day (a2m c (a1V l R p) 4096).1[i]) hwb p) rfl rfl ?_;refine o_v rfl (OV.cast (u:=.bool (a0E (b1p c (a1V l R p) day (a2m c (a1V l R p) 4096).1[i]) p).isSome) (b8a rfl rfl) (congrArg Value.bool c7X)) ?_;refine go 2 ?_;refine cb rfl (fun h82 p82=>?_) (fun h82 p82=>?_)
       ·refine go 4 ?_;refine a0c he he rfl rfl rfl rfl rfl rfl rfl (fun v85=>?_);refine go 1 ?_;refine a0o ?_;refine a0v he he rfl rfl (by show (wb.oneCell'&&true)=true;rw[RdS.one hwb];rfl) rfl rfl (by omega) (by omega) rfl (fun v86=>?_);refine go 10 ?_;refine a0f ?_;refine a0b ?_;refine a0f ?_;refine a0b ?_;exact a1N (i+1) (_) (_) (_) ⟨by omega,hJ.trans (j68.trans j75),by rw[a9e hlt h82];exact hF.append (.one ⟨_,rfl,hwb⟩)⟩ (by omega) rfl sb (by rw[a9e hlt h82,List.length_append];rfl)
       ·refine go 9 ?_;refine a0b ?_;exact a1N (i+1) (_) (_) (_) ⟨by omega,hJ.trans (j68.trans j75),by rw[b1o hlt h82];exact hF⟩ (by omega) rfl sb (by rw[b1o hlt h82])
      ·have e:i=(a2m c (a1V l R p) 4096).1.length:=by omega
       subst e;rw[List.take_length]at hF hcl ⊢
       refine a0l (l:=a9d c (a1V l R p) p day) rfl rfl hF (fun I9 j9 R9=>?_)
       have R9s:=R9
       obtain⟨A14,c14,rfl,_,_,_⟩:=R9s;refine go 13 ?_;refine cb rfl (fun h89 p89=>?_) (fun h89 p89=>?_)
       ·refine go 8 ?_;refine a1F rfl rfl rfl ?_
        have hz:a9d c (a1V l R p) p day=[]:=List.eq_nil_of_length_eq_zero (by omega)
        exact q_i ⟨_,by rw[c4G h0 hz],by rw[c4G h0 hz];exact RdS.nil'⟩
       ·refine go 10 ?_;refine a1F rfl rfl rfl ?_
        have hz:a9d c (a1V l R p) p day≠[]:=fun e=>by rw[e]at h89;simp at h89
        exact q_i ⟨_,by rw[c8h h0 hz],by rw[c8h h0 hz];exact R9⟩
theorem c3w (I:IMap) (v:Value) (l:List Plc) (hv:RdS I v l) (hl:l.length≤1000000) (s:Plc) :
    FnI Tryz.prog 60 #[v,.agg s.cells.toArray] I (fun u J=>RdS J u (a4B a2h s l)):=by
 have hv0:=hv
 obtain⟨A,c0,rfl,hA,hc,hm⟩:=hv;refine enter Tryz.func60 Tryz.call60 rfl Tryz.ntmps60 rfl (fun w0=>?_);refine go 3 ?_;refine a0B _ rfl rfl rfl (fun g3=>?_);refine go 9 ?_;refine a5d (α:=Nat) (Ix:=(fun i=>I)) (Lx:=(fun i=>[(0,.slice A l.length c0),(3,.pointer (some ⟨g3,0,none⟩)),(5,.int .i64 ((i:Nat):Int))])) (Hx:=(fun i=>[.blk g3 55 s.cells])) (p:=(fun i=>i≤l.length∧a4B a2h s l=l.take i++a4B a2h s (l.drop i)∧∀h:i<l.length,¬a2h l[i] s=true)) ?_ ?_
 ·refine go 1 ?_
  refine a0Q (α:=Nat) 0 (fun i=>I)
   (fun i=>[(0,.slice A l.length c0),(3,.pointer (some ⟨g3,0,none⟩)),(5,.int .i64 ((i:Nat):Int))])
   (fun i=>[.blk g3 55 s.cells])
   (fun i=>i≤l.length∧a4B a2h s l=l.take i++a4B a2h s (l.drop i))
   (fun i=>l.length-i) ⟨Nat.zero_le _,rfl⟩ rfl sb rfl ?_
  intro i ⟨hi,hn⟩;refine go 2 ?_;refine a0F T.mixed ?_;refine a0e 0 rfl rfl (by kernel_rfl) rfl (.refl _) rfl (a0a rfl) ?_;refine a0e 1 rfl rfl (by kernel_rfl) rfl (.refl _) rfl (a0a rfl) ?_;refine a0e 2 rfl rfl (by kernel_rfl) rfl (.refl _) rfl (a3V he rfl) ?_;refine a0e 3 rfl rfl (by kernel_rfl) rfl (.refl _) rfl (a5o rfl rfl) ?_;refine a0e 4 rfl rfl (by kernel_rfl) rfl (.refl _) rfl (a0a rfl) ?_;refine sxb 10 rfl (fun h10 p10=>?_) (fun h10 p10=>?_)
  ·have hlt:i<l.length:=by omega
   refine d_t 5 rfl rfl (by kernel_rfl) rfl (fun _ m=>m.keeps (.refl _)) (a0k rfl rfl h10 (a0a rfl)) ?_;refine d_t 6 rfl rfl (by kernel_rfl) rfl (fun _ m=>m.keeps (.refl _)) (a0k rfl rfl h10 (a0a rfl)) ?_;obtain⟨b13,o13,w13,e13,c13,r13⟩:=RdA.at_ hA (i:=i) hlt;obtain rfl:=r13;refine d_t 7 rfl rfl (by kernel_rfl) rfl (fun _ m=>m.keeps (.refl _)) (a0k rfl rfl h10 (a0h he rfl rfl e13 (i) (by omega) hlt)) ?_;refine d_t 8 rfl rfl (by kernel_rfl) rfl (fun _ m=>m.keeps (.refl _)) (a0k rfl rfl h10 (a0g he rfl)) ?_;refine d_t 9 rfl rfl (by kernel_rfl) rfl (fun _ m=>m.keeps (.refl _)) (a0k rfl rfl h10 (a0K he rfl (c13 0 _ rfl))) ?_;refine d_t 10 rfl rfl (by kernel_rfl) rfl (fun _ m=>m.keeps (.refl _)) (a0k rfl rfl h10 (a0g he rfl)) ?_;refine d_t 11 rfl rfl (by kernel_rfl) rfl (fun _ m=>m.keeps (.refl _)) (a0k rfl rfl h10 (a2H m0 he rfl rfl)) ?_;refine d_t 12 rfl rfl (by kernel_rfl) rfl (fun _ m=>m.keeps (.refl _)) (a0k rfl rfl h10 (c1w rfl rfl)) ?_;refine d_t 13 rfl rfl (by kernel_rfl) rfl (fun _ m=>m.keeps (.refl _)) (a0k rfl rfl h10 (a0a rfl)) ?_;refine sxb 19 rfl (fun h19 p19=>?_) (fun h19 p19=>?_)
   ·refine d_t 14 rfl rfl (by kernel_rfl) rfl (fun _ m=>m.keeps (.refl _)) (a0A rfl rfl h19) ?_;refine d_t 15 rfl rfl (by kernel_rfl) rfl (fun _ m=>m.keeps (.refl _)) (a0A rfl rfl h19) ?_;refine d_t 16 rfl rfl (by kernel_rfl) rfl (fun _ m=>m.keeps (.refl _)) (a0A rfl rfl h19) ?_;refine d_t 17 rfl rfl (by kernel_rfl) rfl (fun _ m=>m.keeps (.refl _)) (a0A rfl rfl h19) ?_;refine d_t 18 rfl rfl (by kernel_rfl) rfl (fun _ m=>m.keeps (.refl _)) (a0A rfl rfl h19) ?_;refine d_t 19 rfl rfl (by kernel_rfl) rfl (fun _ m=>m.keeps (.refl _)) (a0A rfl rfl h19) ?_;refine d_t 20 rfl rfl (by kernel_rfl) rfl (fun _ m=>m.keeps (.refl _)) (a0A rfl rfl h19) ?_;refine d_t 21 rfl rfl (by kernel_rfl) rfl (fun _ m=>m.keeps (.refl _)) (a0A rfl rfl h19) ?_;refine d_t 22 rfl rfl (by kernel_rfl) rfl (fun _ m=>m.keeps (.refl _)) (a0A rfl rfl h19) ?_;refine d_t 23 rfl rfl (by kernel_rfl) rfl (fun _ m=>m.keeps (.refl _)) (a1p rfl rfl) ?_;refine d_t 24 rfl rfl (by kernel_rfl) rfl (fun _ m=>m.keeps (.refl _)) (a1p rfl rfl) ?_;refine d_t 25 rfl rfl (by kernel_rfl) rfl (fun _ m=>m.keeps (.refl _)) (a1p rfl rfl) ?_;refine d_t 26 rfl rfl (by kernel_rfl) rfl (fun _ m=>m.keeps (.refl _)) (a1p rfl rfl) ?_;refine d_t 27 rfl rfl (by kernel_rfl) rfl (fun _ m=>m.keeps (.refl _)) (a1p rfl rfl) ?_;refine d_t 28 rfl rfl (by kernel_rfl) rfl (fun _ m=>m.keeps (.refl _)) (a1p rfl rfl) ?_;refine d_t 29 rfl rfl (by kernel_rfl) rfl (fun _ m=>m.keeps (.refl _)) (a1p rfl rfl) ?_;refine d_t 30 rfl rfl (by kernel_rfl) rfl (fun _ m=>m.keeps (.refl _)) (a1p rfl rfl) ?_;refine d_t 31 rfl rfl (by kernel_rfl) rfl (fun _ m=>m.keeps (.refl _)) (a0A rfl rfl h19) ?_;refine d_t 32 rfl rfl (by kernel_rfl) rfl (fun _ m=>m.keeps (.refl _)) (a0k rfl rfl h10 (a2s h19 rfl)) ?_;refine a0e 33 rfl rfl (by kernel_rfl) rfl (.refl _) rfl (a3g h10 rfl rfl) ?_;refine a0n (by kernel_rfl) ?_;refine go 1 ?_;refine a2M rfl ?_;refine go 10 ?_;exact a0M (i+1) ⟨by omega,b1G hlt hn (c8V h19)⟩ (by omega) rfl sb rfl
   ·refine d_t 14 rfl rfl (by kernel_rfl) rfl (fun _ m=>m.keeps (.refl _)) (a0k rfl rfl h19 (a0a rfl)) ?_;refine d_t 15 rfl rfl (by kernel_rfl) rfl (fun _ m=>m.keeps (.refl _)) (a0k rfl rfl h19 (a0a rfl)) ?_;obtain⟨b22,o22,w22,e22,c22,r22⟩:=RdA.at_ hA (i:=i) hlt;obtain rfl:=r22;refine d_t 16 rfl rfl (by kernel_rfl) rfl (fun _ m=>m.keeps (.refl _)) (a0k rfl rfl h19 (a0h he rfl rfl e22 (i) (by omega) hlt)) ?_;refine d_t 17 rfl rfl (by kernel_rfl) rfl (fun _ m=>m.keeps (.refl _)) (a0k rfl rfl h19 (a0g he rfl)) ?_;refine d_t 18 rfl rfl (by kernel_rfl) rfl (fun _ m=>m.keeps (.refl _)) (a0k rfl rfl h19 (a0K he rfl (c22 0 _ rfl))) ?_;refine d_t 19 rfl rfl (by kernel_rfl) rfl (fun _ m=>m.keeps (.refl _)) (a0k rfl rfl h19 (a0g he rfl)) ?_;refine d_t 20 rfl rfl (by kernel_rfl) rfl (fun _ m=>m.keeps (.refl _)) (a0k rfl rfl h19 (a2H m0 he rfl rfl)) ?_;refine d_t 21 rfl rfl (by kernel_rfl) rfl (fun _ m=>m.keeps (.refl _)) (a0k rfl rfl h19 (a5E rfl rfl)) ?_;refine d_t 22 rfl rfl (by kernel_rfl) rfl (fun _ m=>m.keeps (.refl _)) (a0k rfl rfl h19 (a0a rfl)) ?_;refine sxb 28 rfl (fun h28 p28=>?_) (fun h28 p28=>?_)
    ·refine d_t 23 rfl rfl (by kernel_rfl) rfl (fun _ m=>m.keeps (.refl _)) (a0k rfl rfl h28 (a0a rfl)) ?_;refine d_t 24 rfl rfl (by kernel_rfl) rfl (fun _ m=>m.keeps (.refl _)) (a0k rfl rfl h28 (a0a rfl)) ?_;obtain⟨b31,o31,w31,e31,c31,r31⟩:=RdA.at_ hA (i:=i) hlt;obtain rfl:=r31;refine d_t 25 rfl rfl (by kernel_rfl) rfl (fun _ m=>m.keeps (.refl _)) (a0k rfl rfl h28 (a0h he rfl rfl e31 (i) (by omega) hlt)) ?_;refine d_t 26 rfl rfl (by kernel_rfl) rfl (fun _ m=>m.keeps (.refl _)) (a0k rfl rfl h28 (a0g he rfl)) ?_;refine d_t 27 rfl rfl (by kernel_rfl) rfl (fun _ m=>m.keeps (.refl _)) (a0k rfl rfl h28 (a0K he rfl (c31 1 _ rfl))) ?_;refine d_t 28 rfl rfl (by kernel_rfl) rfl (fun _ m=>m.keeps (.refl _)) (a0k rfl rfl h28 (a0g he rfl)) ?_;refine d_t 29 rfl rfl (by kernel_rfl) rfl (fun _ m=>m.keeps (.refl _)) (a0k rfl rfl h28 (a2H m0 he rfl rfl)) ?_;refine d_t 30 rfl rfl (by kernel_rfl) rfl (fun _ m=>m.keeps (.refl _)) (a0k rfl rfl h28 (c1w rfl rfl)) ?_;refine d_t 31 rfl rfl (by kernel_rfl) rfl (fun _ m=>m.keeps (.refl _)) (a0k rfl rfl h19 (a3g h28 rfl rfl)) ?_;refine d_t 32 rfl rfl (by kernel_rfl) rfl (fun _ m=>m.keeps (.refl _)) (a0k rfl rfl h10 (a3b h19 rfl rfl)) ?_;refine a0e 33 rfl rfl (by kernel_rfl) rfl (.refl _) rfl (a3g h10 rfl rfl) ?_;refine a0n (by kernel_rfl) ?_;refine go 1 ?_;refine cb rfl (fun h39 p39=>?_) (fun h39 p39=>?_)
     ·refine go 10 ?_;exact a0M (i+1) ⟨by omega,b1G hlt hn (c8W (by simpa using h28) (by simpa using h39))⟩ (by omega) rfl sb rfl
     ·refine go 5 ?_;exact a2a i ⟨by omega,hn,fun _=>c8Y (by simpa using h19) (by simpa using h39)⟩ sb rfl rfl
    ·refine d_t 23 rfl rfl (by kernel_rfl) rfl (fun _ m=>m.keeps (.refl _)) (a0A rfl rfl h28) ?_;refine d_t 24 rfl rfl (by kernel_rfl) rfl (fun _ m=>m.keeps (.refl _)) (a0A rfl rfl h28) ?_;refine d_t 25 rfl rfl (by kernel_rfl) rfl (fun _ m=>m.keeps (.refl _)) (a0A rfl rfl h28) ?_;refine d_t 26 rfl rfl (by kernel_rfl) rfl (fun _ m=>m.keeps (.refl _)) (a0A rfl rfl h28) ?_;refine d_t 27 rfl rfl (by kernel_rfl) rfl (fun _ m=>m.keeps (.refl _)) (a0A rfl rfl h28) ?_;refine d_t 28 rfl rfl (by kernel_rfl) rfl (fun _ m=>m.keeps (.refl _)) (a0A rfl rfl h28) ?_;refine d_t 29 rfl rfl (by kernel_rfl) rfl (fun _ m=>m.keeps (.refl _)) (a0A rfl rfl h28) ?_;refine d_t 30 rfl rfl (by kernel_rfl) rfl (fun _ m=>m.keeps (.refl _)) (a0A rfl rfl h28) ?_;refine d_t 31 rfl rfl (by kernel_rfl) rfl (fun _ m=>m.keeps (.refl _)) (a0k rfl rfl h19 (a3K h28 rfl)) ?_;refine d_t 32 rfl rfl (by kernel_rfl) rfl (fun _ m=>m.keeps (.refl _)) (a0k rfl rfl h10 (a3b h19 rfl rfl)) ?_;refine a0e 33 rfl rfl (by kernel_rfl) rfl (.refl _) rfl (a3g h10 rfl rfl) ?_;refine a0n (by kernel_rfl) ?_;refine go 1 ?_;refine a0T rfl ?_;refine go 5 ?_;exact a2a i ⟨by omega,hn,fun _=>c8X (by simpa using h19) (by simpa using h28)⟩ sb rfl rfl
  ·refine d_t 5 rfl rfl (by kernel_rfl) rfl (fun _ m=>m.keeps (.refl _)) (a0A rfl rfl h10) ?_;refine d_t 6 rfl rfl (by kernel_rfl) rfl (fun _ m=>m.keeps (.refl _)) (a0A rfl rfl h10) ?_;refine d_t 7 rfl rfl (by kernel_rfl) rfl (fun _ m=>m.keeps (.refl _)) (a0A rfl rfl h10) ?_;refine d_t 8 rfl rfl (by kernel_rfl) rfl (fun _ m=>m.keeps (.refl _)) (a0A rfl rfl h10) ?_;refine d_t 9 rfl rfl (by kernel_rfl) rfl (fun _ m=>m.keeps (.refl _)) (a0A rfl rfl h10) ?_;refine d_t 10 rfl rfl (by kernel_rfl) rfl (fun _ m=>m.keeps (.refl _)) (a0A rfl rfl h10) ?_;refine d_t 11 rfl rfl (by kernel_rfl) rfl (fun _ m=>m.keeps (.refl _)) (a0A rfl rfl h10) ?_;refine d_t 12 rfl rfl (by kernel_rfl) rfl (fun _ m=>m.keeps (.refl _)) (a0A rfl rfl h10) ?_;refine d_t 13 rfl rfl (by kernel_rfl) rfl (fun _ m=>m.keeps (.refl _)) (a0A rfl rfl h10) ?_;refine d_t 14 rfl rfl (by kernel_rfl) rfl (fun _ m=>m.keeps (.refl _)) (a1p rfl rfl) ?_;refine d_t 15 rfl rfl (by kernel_rfl) rfl (fun _ m=>m.keeps (.refl _)) (a1p rfl rfl) ?_;refine d_t 16 rfl rfl (by kernel_rfl) rfl (fun _ m=>m.keeps (.refl _)) (a1p rfl rfl) ?_;refine d_t 17 rfl rfl (by kernel_rfl) rfl (fun _ m=>m.keeps (.refl _)) (a1p rfl rfl) ?_;refine d_t 18 rfl rfl (by kernel_rfl) rfl (fun _ m=>m.keeps (.refl _)) (a1p rfl rfl) ?_;refine d_t 19 rfl rfl (by kernel_rfl) rfl (fun _ m=>m.keeps (.refl _)) (a1p rfl rfl) ?_;refine d_t 20 rfl rfl (by kernel_rfl) rfl (fun _ m=>m.keeps (.refl _)) (a1p rfl rfl) ?_;refine d_t 21 rfl rfl (by kernel_rfl) rfl (fun _ m=>m.keeps (.refl _)) (a1p rfl rfl) ?_;refine d_t 22 rfl rfl (by kernel_rfl) rfl (fun _ m=>m.keeps (.refl _)) (a1p rfl rfl) ?_;refine d_t 23 rfl rfl (by kernel_rfl) rfl (fun _ m=>m.keeps (.refl _)) (a1p rfl rfl) ?_;refine d_t 24 rfl rfl (by kernel_rfl) rfl (fun _ m=>m.keeps (.refl _)) (a1p rfl rfl) ?_;refine d_t 25 rfl rfl (by kernel_rfl) rfl (fun _ m=>m.keeps (.refl _)) (a1p rfl rfl) ?_;refine d_t 26 rfl rfl (by kernel_rfl) rfl (fun _ m=>m.keeps (.refl _)) (a1p rfl rfl) ?_;refine d_t 27 rfl rfl (by kernel_rfl) rfl (fun _ m=>m.keeps (.refl _)) (a1p rfl rfl) ?_;refine d_t 28 rfl rfl (by kernel_rfl) rfl (fun _ m=>m.keeps (.refl _)) (a1p rfl rfl) ?_;refine d_t 29 rfl rfl (by kernel_rfl) rfl (fun _ m=>m.keeps (.refl _)) (a1p rfl rfl) ?_;refine d_t 30 rfl rfl (by kernel_rfl) rfl (fun _ m=>m.keeps (.refl _)) (a1p rfl rfl) ?_;refine d_t 31 rfl rfl (by kernel_rfl) rfl (fun _ m=>m.keeps (.refl _)) (a1p rfl rfl) ?_;refine d_t 32 rfl rfl (by kernel_rfl) rfl (fun _ m=>m.keeps (.refl _)) (a0A rfl rfl h10) ?_;refine a0e 33 rfl rfl (by kernel_rfl) rfl (.refl _) rfl (a3K h10 rfl) ?_;refine a0n (by kernel_rfl) ?_;refine go 1 ?_;refine a0T rfl ?_;refine go 5 ?_;exact a2a i ⟨by omega,hn,fun h=>absurd h (by omega)⟩ sb rfl rfl
 ·intro i ⟨hi,hn,hs⟩;refine go 2 ?_;refine a0F T.mixed ?_;refine a0e 0 rfl rfl (by kernel_rfl) rfl (.refl _) rfl (a0a rfl) ?_;refine a0e 1 rfl rfl (by kernel_rfl) rfl (.refl _) rfl (a0a rfl) ?_;refine a0e 2 rfl rfl (by kernel_rfl) rfl (.refl _) rfl (a3V he rfl) ?_;refine a0e 3 rfl rfl (by kernel_rfl) rfl (.refl _) rfl (a5o rfl rfl) ?_;refine a0e 4 rfl rfl (by kernel_rfl) rfl (.refl _) rfl (a0a rfl) ?_;refine sxb 46 rfl (fun h46 p46=>?_) (fun h46 p46=>?_)
  ·have hlt:i<l.length:=by omega
   refine d_t 5 rfl rfl (by kernel_rfl) rfl (fun _ m=>m.keeps (.refl _)) (a0k rfl rfl h46 (a0a rfl)) ?_;refine d_t 6 rfl rfl (by kernel_rfl) rfl (fun _ m=>m.keeps (.refl _)) (a0k rfl rfl h46 (a0a rfl)) ?_;obtain⟨b49,o49,w49,e49,c49,r49⟩:=RdA.at_ hA (i:=i) hlt;obtain rfl:=r49;refine d_t 7 rfl rfl (by kernel_rfl) rfl (fun _ m=>m.keeps (.refl _)) (a0k rfl rfl h46 (a0h he rfl rfl e49 (i) (by omega) hlt)) ?_;refine d_t 8 rfl rfl (by kernel_rfl) rfl (fun _ m=>m.keeps (.refl _)) (a0k rfl rfl h46 (a0G he rfl c49 rfl)) ?_;refine d_t 9 rfl rfl (by kernel_rfl) rfl (fun _ m=>m.keeps (.refl _)) (a0k rfl rfl h46 (a3U m0 he rfl rfl)) ?_;refine d_t 10 rfl rfl (by kernel_rfl) rfl (fun _ m=>m.keeps (.refl _)) (a0k rfl rfl h46 (a9T T.eqg_55 (b1u l[i] s) rfl rfl)) ?_;refine a0e 11 rfl rfl (by kernel_rfl) rfl (.refl _) rfl (a3g h46 rfl rfl) ?_;refine a0n (by kernel_rfl) ?_;refine go 1 ?_;refine cb rfl (fun h53 p53=>?_) (fun h53 p53=>?_)
   ·refine go 8 ?_;refine a0s rfl rfl ?_;exact q_i (by rw[b5G hlt hn (hs hlt) (by simpa using h53)];exact hv0)
   ·refine go 3 ?_;refine a2Z (fun hE6 hf6=>?_);refine a0F T.mixed ?_;refine a0e 1 rfl rfl (by kernel_rfl) rfl (.refl _) rfl (a0a rfl) ?_;refine a0e 2 rfl rfl (by kernel_rfl) rfl (.refl _) rfl (a0a rfl) ?_;refine a0e 3 rfl rfl (by kernel_rfl) rfl (.refl _) rfl (a1w he rfl rfl i (by omega) (by omega)) ?_;refine a0e 5 rfl rfl (by kernel_rfl) rfl (.refl _) rfl (a3U m0 he rfl rfl) ?_;refine a0e 8 rfl rfl (by kernel_rfl) rfl (.refl _) rfl (a0a rfl) ?_;refine a0e 9 rfl rfl (by kernel_rfl) rfl (.refl _) rfl (a0a rfl) ?_;refine a0e 10 rfl rfl (by kernel_rfl) rfl (.refl _) rfl (a0S he rfl rfl i (by omega) (by omega)) ?_;refine a3O 0 6 (by kernel_rfl) rfl rfl ?_ ?_
    ·refine a0c he he rfl rfl rfl rfl rfl rfl rfl (fun v55=>?_);refine a0D (fun _ m=>m.keeps (.cons _ (.refl _))) ?_;refine a3O 4 6 (by kernel_rfl) rfl rfl ?_ ?_
     ·refine a0y ((hv0.takeM i (by omega))) rfl he he rfl rfl rfl rfl (by simp only[List.length_append,List.length_take,List.length_drop,List.length_singleton];omega) (by simp only[List.length_append,List.length_take,List.length_drop,List.length_singleton];omega) rfl (fun v59 x59 f59=>?_);refine a0D (fun _ m=>m.keeps (.cons _ (.refl _))) ?_;refine a0m 6 (by kernel_rfl) rfl ?_;refine a0c he he rfl rfl rfl rfl rfl rfl rfl (fun v61=>?_);refine a0D (fun _ m=>m.keeps (.cons _ (.cons _ (.refl _)))) ?_;refine a0m 7 (by kernel_rfl) rfl ?_;refine a0f ?_;refine a0v he he rfl rfl rfl rfl rfl (by simp only[List.length_append,List.length_take,List.length_drop,List.length_singleton];omega) (by simp only[List.length_append,List.length_take,List.length_drop,List.length_singleton];omega) rfl (fun v62=>?_);refine a0D (fun _ m=>m.keeps (.cons _ (.cons _ (.refl _)))) ?_;refine a0m 11 (by kernel_rfl) rfl ?_;refine a0y ((hv0.dropM i (by omega))) rfl he he rfl rfl rfl rfl (by simp only[List.length_append,List.length_take,List.length_drop,List.length_singleton];omega) (by simp only[List.length_append,List.length_take,List.length_drop,List.length_singleton];omega) rfl (fun v66 x66 f66=>?_);refine a0l (l:=(l.take i++[s]++l.drop i)) rfl (by simp only[List.length_append,Nat.zero_add];rfl) (((f59.append (.one rfl)).append f66)) (fun I66 j66 R66=>?_);refine a0D (fun _ m=>m.keepsI (.cons _ (.refl _)) (j66) hE6 hf6) ?_;refine d_t 12 rfl rfl (by kernel_rfl) rfl (fun _ m=>m.keepsI (.cons _ (.refl _)) (j66) hE6 hf6) (y_v rfl (a0Y rfl)) ?_;refine a0n (by kernel_rfl) ?_;refine go 2 ?_;refine a0s rfl rfl ?_;exact q_i (by rw[a7F hlt hn (hs hlt) (by simpa using h53)];exact R66)
     ·refine a0c he he rfl rfl rfl rfl rfl rfl rfl (fun v61=>?_);refine a0D (fun _ m=>m.keeps (.cons _ (.cons _ (.refl _)))) ?_;refine a0m 4 (by kernel_rfl) rfl ?_;refine a0f ?_;refine a0y ((hv0.takeM i (by omega))) rfl he he rfl rfl rfl rfl (by simp only[List.length_append,List.length_take,List.length_drop,List.length_singleton];omega) (by simp only[List.length_append,List.length_take,List.length_drop,List.length_singleton];omega) rfl (fun v59 x59 f59=>?_);refine a0D (fun _ m=>m.keeps (.cons _ (.cons _ (.refl _)))) ?_;refine a0m 7 (by kernel_rfl) rfl ?_;refine a0f ?_;refine a0f ?_;refine a0v he he rfl rfl rfl rfl rfl (by simp only[List.length_append,List.length_take,List.length_drop,List.length_singleton];omega) (by simp only[List.length_append,List.length_take,List.length_drop,List.length_singleton];omega) rfl (fun v62=>?_);refine a0D (fun _ m=>m.keeps (.cons _ (.cons _ (.refl _)))) ?_;refine a0m 11 (by kernel_rfl) rfl ?_;refine a0y ((hv0.dropM i (by omega))) rfl he he rfl rfl rfl rfl (by simp only[List.length_append,List.length_take,List.length_drop,List.length_singleton];omega) (by simp only[List.length_append,List.length_take,List.length_drop,List.length_singleton];omega) rfl (fun v66 x66 f66=>?_);refine a0l (l:=(l.take i++[s]++l.drop i)) rfl (by simp only[List.length_append,Nat.zero_add];rfl) (((f59.append (.one rfl)).append f66)) (fun I66 j66 R66=>?_);refine a0D (fun _ m=>m.keepsI (.cons _ (.refl _)) (j66) hE6 hf6) ?_;refine d_t 12 rfl rfl (by kernel_rfl) rfl (fun _ m=>m.keepsI (.cons _ (.refl _)) (j66) hE6 hf6) (y_v rfl (a0Y rfl)) ?_;refine a0n (by kernel_rfl) ?_;refine go 2 ?_;refine a0s rfl rfl ?_;exact q_i (by rw[a7F hlt hn (hs hlt) (by simpa using h53)];exact R66)
    ·refine a0c he he rfl rfl rfl rfl rfl rfl rfl (fun v61=>?_);refine a0D (fun _ m=>m.keeps (.cons _ (.refl _))) ?_;refine a0m 0 (by kernel_rfl) rfl ?_;refine a0c he he rfl rfl rfl rfl rfl rfl rfl (fun v55=>?_);refine a0D (fun _ m=>m.keeps (.cons _ (.cons _ (.refl _)))) ?_;refine a0m 4 (by kernel_rfl) rfl ?_;refine a0y ((hv0.takeM i (by omega))) rfl he he rfl rfl rfl rfl (by simp only[List.length_append,List.length_take,List.length_drop,List.length_singleton];omega) (by simp only[List.length_append,List.length_take,List.length_drop,List.length_singleton];omega) rfl (fun v59 x59 f59=>?_);refine a0D (fun _ m=>m.keeps (.cons _ (.cons _ (.refl _)))) ?_;refine a0m 7 (by kernel_rfl) rfl ?_;refine a0f ?_;refine a0f ?_;refine a0v he he rfl rfl rfl rfl rfl (by simp only[List.length_append,List.length_take,List.length_drop,List.length_singleton];omega) (by simp only[List.length_append,List.length_take,List.length_drop,List.length_singleton];omega) rfl (fun v62=>?_);refine a0D (fun _ m=>m.keeps (.cons _ (.cons _ (.refl _)))) ?_;refine a0m 11 (by kernel_rfl) rfl ?_;refine a0y ((hv0.dropM i (by omega))) rfl he he rfl rfl rfl rfl (by simp only[List.length_append,List.length_take,List.length_drop,List.length_singleton];omega) (by simp only[List.length_append,List.length_take,List.length_drop,List.length_singleton];omega) rfl (fun v66 x66 f66=>?_);refine a0l (l:=(l.take i++[s]++l.drop i)) rfl (by simp only[List.length_append,Nat.zero_add];rfl) (((f59.append (.one rfl)).append f66)) (fun I66 j66 R66=>?_);refine a0D (fun _ m=>m.keepsI (.cons _ (.refl _)) (j66) hE6 hf6) ?_;refine d_t 12 rfl rfl (by kernel_rfl) rfl (fun _ m=>m.keepsI (.cons _ (.refl _)) (j66) hE6 hf6) (y_v rfl (a0Y rfl)) ?_;refine a0n (by kernel_rfl) ?_;refine go 2 ?_;refine a0s rfl rfl ?_;exact q_i (by rw[a7F hlt hn (hs hlt) (by simpa using h53)];exact R66)
  ·refine d_t 5 rfl rfl (by kernel_rfl) rfl (fun _ m=>m.keeps (.refl _)) (a0A rfl rfl h46) ?_;refine d_t 6 rfl rfl (by kernel_rfl) rfl (fun _ m=>m.keeps (.refl _)) (a0A rfl rfl h46) ?_;refine d_t 7 rfl rfl (by kernel_rfl) rfl (fun _ m=>m.keeps (.refl _)) (a0A rfl rfl h46) ?_;refine d_t 8 rfl rfl (by kernel_rfl) rfl (fun _ m=>m.keeps (.refl _)) (a0A rfl rfl h46) ?_;refine d_t 9 rfl rfl (by kernel_rfl) rfl (fun _ m=>m.keeps (.refl _)) (a0A rfl rfl h46) ?_;refine d_t 10 rfl rfl (by kernel_rfl) rfl (fun _ m=>m.keeps (.refl _)) (a0A rfl rfl h46) ?_;refine a0e 11 rfl rfl (by kernel_rfl) rfl (.refl _) rfl (a3K h46 rfl) ?_;refine a0n (by kernel_rfl) ?_;refine go 1 ?_;refine a0T rfl ?_;refine go 3 ?_;refine a2Z (fun hE6 hf6=>?_);refine a0F T.mixed ?_;refine a0e 1 rfl rfl (by kernel_rfl) rfl (.refl _) rfl (a0a rfl) ?_;refine a0e 2 rfl rfl (by kernel_rfl) rfl (.refl _) rfl (a0a rfl) ?_;refine a0e 3 rfl rfl (by kernel_rfl) rfl (.refl _) rfl (a1w he rfl rfl i (by omega) (by omega)) ?_;refine a0e 5 rfl rfl (by kernel_rfl) rfl (.refl _) rfl (a3U m0 he rfl rfl) ?_;refine a0e 8 rfl rfl (by kernel_rfl) rfl (.refl _) rfl (a0a rfl) ?_;refine a0e 9 rfl rfl (by kernel_rfl) rfl (.refl _) rfl (a0a rfl) ?_;refine a0e 10 rfl rfl (by kernel_rfl) rfl (.refl _) rfl (a0S he rfl rfl i (by omega) (by omega)) ?_;refine a3O 0 6 (by kernel_rfl) rfl rfl ?_ ?_
   ·refine a0c he he rfl rfl rfl rfl rfl rfl rfl (fun v55=>?_);refine a0D (fun _ m=>m.keeps (.cons _ (.refl _))) ?_;refine a3O 4 6 (by kernel_rfl) rfl rfl ?_ ?_
    ·refine a0y ((hv0.takeM i (by omega))) rfl he he rfl rfl rfl rfl (by simp only[List.length_append,List.length_take,List.length_drop,List.length_singleton];omega) (by simp only[List.length_append,List.length_take,List.length_drop,List.length_singleton];omega) rfl (fun v59 x59 f59=>?_);refine a0D (fun _ m=>m.keeps (.cons _ (.refl _))) ?_;refine a0m 6 (by kernel_rfl) rfl ?_;refine a0c he he rfl rfl rfl rfl rfl rfl rfl (fun v61=>?_);refine a0D (fun _ m=>m.keeps (.cons _ (.cons _ (.refl _)))) ?_;refine a0m 7 (by kernel_rfl) rfl ?_;refine a0f ?_;refine a0v he he rfl rfl rfl rfl rfl (by simp only[List.length_append,List.length_take,List.length_drop,List.length_singleton];omega) (by simp only[List.length_append,List.length_take,List.length_drop,List.length_singleton];omega) rfl (fun v62=>?_);refine a0D (fun _ m=>m.keeps (.cons _ (.cons _ (.refl _)))) ?_;refine a0m 11 (by kernel_rfl) rfl ?_;refine a0y ((hv0.dropM i (by omega))) rfl he he rfl rfl rfl rfl (by simp only[List.length_append,List.length_take,List.length_drop,List.length_singleton];omega) (by simp only[List.length_append,List.length_take,List.length_drop,List.length_singleton];omega) rfl (fun v66 x66 f66=>?_);refine a0l (l:=(l.take i++[s]++l.drop i)) rfl (by simp only[List.length_append,Nat.zero_add];rfl) (((f59.append (.one rfl)).append f66)) (fun I66 j66 R66=>?_);refine a0D (fun _ m=>m.keepsI (.cons _ (.refl _)) (j66) hE6 hf6) ?_;refine d_t 12 rfl rfl (by kernel_rfl) rfl (fun _ m=>m.keepsI (.cons _ (.refl _)) (j66) hE6 hf6) (y_v rfl (a0Y rfl)) ?_;refine a0n (by kernel_rfl) ?_;refine go 2 ?_;refine a0s rfl rfl ?_;exact q_i (by rw[a7E (by omega) hn];exact R66)
    ·refine a0c he he rfl rfl rfl rfl rfl rfl rfl (fun v61=>?_);refine a0D (fun _ m=>m.keeps (.cons _ (.cons _ (.refl _)))) ?_;refine a0m 4 (by kernel_rfl) rfl ?_;refine a0f ?_;refine a0y ((hv0.takeM i (by omega))) rfl he he rfl rfl rfl rfl (by simp only[List.length_append,List.length_take,List.length_drop,List.length_singleton];omega) (by simp only[List.length_append,List.length_take,List.length_drop,List.length_singleton];omega) rfl (fun v59 x59 f59=>?_);refine a0D (fun _ m=>m.keeps (.cons _ (.cons _ (.refl _)))) ?_;refine a0m 7 (by kernel_rfl) rfl ?_;refine a0f ?_;refine a0f ?_;refine a0v he he rfl rfl rfl rfl rfl (by simp only[List.length_append,List.length_take,List.length_drop,List.length_singleton];omega) (by simp only[List.length_append,List.length_take,List.length_drop,List.length_singleton];omega) rfl (fun v62=>?_);refine a0D (fun _ m=>m.keeps (.cons _ (.cons _ (.refl _)))) ?_;refine a0m 11 (by kernel_rfl) rfl ?_;refine a0y ((hv0.dropM i (by omega))) rfl he he rfl rfl rfl rfl (by simp only[List.length_append,List.length_take,List.length_drop,List.length_singleton];omega) (by simp only[List.length_append,List.length_take,List.length_drop,List.length_singleton];omega) rfl (fun v66 x66 f66=>?_);refine a0l (l:=(l.take i++[s]++l.drop i)) rfl (by simp only[List.length_append,Nat.zero_add];rfl) (((f59.append (.one rfl)).append f66)) (fun I66 j66 R66=>?_);refine a0D (fun _ m=>m.keepsI (.cons _ (.refl _)) (j66) hE6 hf6) ?_;refine d_t 12 rfl rfl (by kernel_rfl) rfl (fun _ m=>m.keepsI (.cons _ (.refl _)) (j66) hE6 hf6) (y_v rfl (a0Y rfl)) ?_;refine a0n (by kernel_rfl) ?_;refine go 2 ?_;refine a0s rfl rfl ?_;exact q_i (by rw[a7E (by omega) hn];exact R66)
   ·refine a0c he he rfl rfl rfl rfl rfl rfl rfl (fun v61=>?_);refine a0D (fun _ m=>m.keeps (.cons _ (.refl _))) ?_;refine a0m 0 (by kernel_rfl) rfl ?_;refine a0c he he rfl rfl rfl rfl rfl rfl rfl (fun v55=>?_);refine a0D (fun _ m=>m.keeps (.cons _ (.cons _ (.refl _)))) ?_;refine a0m 4 (by kernel_rfl) rfl ?_;refine a0y ((hv0.takeM i (by omega))) rfl he he rfl rfl rfl rfl (by simp only[List.length_append,List.length_take,List.length_drop,List.length_singleton];omega) (by simp only[List.length_append,List.length_take,List.length_drop,List.length_singleton];omega) rfl (fun v59 x59 f59=>?_);refine a0D (fun _ m=>m.keeps (.cons _ (.cons _ (.refl _)))) ?_;refine a0m 7 (by kernel_rfl) rfl ?_;refine a0f ?_;refine a0f ?_;refine a0v he he rfl rfl rfl rfl rfl (by simp only[List.length_append,List.length_take,List.length_drop,List.length_singleton];omega) (by simp only[List.length_append,List.length_take,List.length_drop,List.length_singleton];omega) rfl (fun v62=>?_);refine a0D (fun _ m=>m.keeps (.cons _ (.cons _ (.refl _)))) ?_;refine a0m 11 (by kernel_rfl) rfl ?_;refine a0y ((hv0.dropM i (by omega))) rfl he he rfl rfl rfl rfl (by simp only[List.length_append,List.length_take,List.length_drop,List.length_singleton];omega) (by simp only[List.length_append,List.length_take,List.length_drop,List.length_singleton];omega) rfl (fun v66 x66 f66=>?_);refine a0l (l:=(l.take i++[s]++l.drop i)) rfl (by simp only[List.length_append,Nat.zero_add];rfl) (((f59.append (.one rfl)).append f66)) (fun I66 j66 R66=>?_);refine a0D (fun _ m=>m.keepsI (.cons _ (.refl _)) (j66) hE6 hf6) ?_;refine d_t 12 rfl rfl (by kernel_rfl) rfl (fun _ m=>m.keepsI (.cons _ (.refl _)) (j66) hE6 hf6) (y_v rfl (a0Y rfl)) ?_;refine a0n (by kernel_rfl) ?_;refine go 2 ?_;refine a0s rfl rfl ?_;exact q_i (by rw[a7E (by omega) hn];exact R66)
theorem c6Q (I:IMap) (vc:Value) (c:List Kind) (hvc:RdS I vc c) (hsc:SmC c) (v:Value) (l:List Rep) (hv:RdS I v l) (hl:l.length≤1000000) (hsl:∀r∈l,∀e∈r.options,SmE e) (R:Nat→Nat) (hRt:Rts l R) (p:ByteArray) (day:Int) :
    FnI Tryz.prog 19 #[.agg #[vc],v,.string p,.int .i64 (day)] I (fun u J=>∃w,u = .tuple #[w,.int .i64 (a7V a2h (a7P p) c l (a1V l R p) p day).2]∧RdS J w (a7V a2h (a7P p) c l (a1V l R p) p day).1):=by
 refine enter Tryz.func19 Tryz.call19 rfl Tryz.ntmps19 rfl (fun w0=>?_);refine go 3 ?_;refine a0B _ rfl rfl rfl (fun g4=>?_);refine go 11 ?_;refine a0O (a7R _ vc c hvc hsc v l hv hl hsl R hRt p day) rfl rfl (fun v21 I21 j21 q21=>?_)
 try have hvc:=hvc.le j21
 try have hv:=hv.le j21
 try have hW:=hW.le j21
 try have hv12:=hv12.le j21
 try have hv14:=hv14.le j21
 obtain⟨w21,rfl,hw21⟩:=q21;obtain⟨W,hWe⟩:∃q,q=(csF c l (a1V l R p) p day):=⟨_,rfl⟩;rw[←hWe]at hw21 ⊢
 have hWl:W.1.length≤4096:=by rw[hWe];exact b8L
 have hWm:=fun i (h:i<W.1.length)=>b8M (c:=c) (l:=l) (own:=(a1V l R p)) (p:=p) (day:=day) (s:=W.1[i]) (by rw[←hWe];exact List.getElem_mem h)
 obtain⟨AW,cW,rfl,hW,_,_⟩:=hw21;refine go 19 ?_;refine a0b ?_
 refine a2L ((0:Nat)) (_) (_) (fun i v12 J=>J)
  (fun i v12 J=>[(2,.string p),(10,.slice AW W.1.length cW),(11,.int .i64 (W.2)),(12,v12),(13,.int .i64 ((i:Nat):Int))])
  (fun i v12 J=>[])
  (fun i v12 J=>i≤W.1.length∧ILe I21 J∧RdS J v12 (a9Z a2h ((W.1.take i).map (a7P p))))
  (fun i v12 J=>W.1.length-i) ⟨Nat.zero_le _,ILe.refl _,RdS.nil'⟩ rfl sb rfl ?_
 intro i v12 J ⟨hi,hJ,hv12⟩
 have hW:=hW.le hJ
 have hsl2:=b4U (lt:=a2h) (L:=W.1) (i:=i) (f:=a7P p)
 refine go 9 ?_;refine cb rfl (fun h27 p27=>?_) (fun h27 p27=>?_)
 ·have hlt:i<W.1.length:=by omega
  refine go 8 ?_;obtain⟨b33,o33,w33,e33,c33,r33⟩:=RdA.at_ hW (i:=i) hlt;obtain⟨s33,rfl,hs33⟩:=r33;refine o_v rfl (a0h he rfl rfl e33 (i) (by omega) hlt) ?_;refine o_v rfl (a0G he rfl c33 rfl) ?_;refine go 2 ?_;refine a2p (c0t _ _ _ hs33 p) rfl rfl (fun v36 q36=>?_);obtain⟨vs36,rfl,s36,rfl,hs36⟩:=q36;refine go 4 ?_;refine a0j he rfl (fun g14=>?_);refine go 1 ?_;refine a0p _ he rfl rfl rfl rfl rfl (Enc.one (α:=Part) (x:=(a0E W.1[i] p).getD zPart) ⟨s36,rfl,hs36⟩) ?_;refine go 10 ?_;refine a0t rfl (a0H (pl:=[(0,1),(1,1)]) he he rfl rfl) ?_;refine go 1 ?_;refine a0O (c3w _ _ _ hv12 (by omega) (a7P p W.1[i])) rfl rfl (fun v45 I45 j45 q45=>?_)
  try have hvc:=hvc.le j45
  try have hv:=hv.le j45
  try have hW:=hW.le j45
  try have hv12:=hv12.le j45
  try have hv14:=hv14.le j45
  refine go 10 ?_;refine a0b ?_;exact a1M (i+1) (_) (_) ⟨by omega,hJ.trans j45,by rw[c3U hlt];exact q45⟩ (by omega) rfl sb rfl
 ·refine go 14 ?_;refine a1F rfl rfl rfl ?_;obtain rfl:i=W.1.length:=by omega
  rw[List.take_length]at hv12
  exact q_i ⟨_,by rw[b0S,←hWe],by rw[b0S,←hWe];exact hv12⟩
theorem c3v (I:IMap) (vc:Value) (c:List Kind) (hvc:RdS I vc c) (hsc:SmC c) (v:Value) (l:List Rep) (hv:RdS I v l) (hl:l.length≤1000000) (hsl:∀r∈l,∀e∈r.options,SmE e) (R:Nat→Nat) (hRt:Rts l R) (p z:ByteArray) (day:Int) :
    FnI Tryz.prog 21 #[.agg #[vc],v,.string p,.string z,.int .i64 (day)] I (fun u J=>∃w,u = .tuple #[w,.int .i64 (a7V sLt (a3z p z) c l (a1V l R p) p day).2]∧RdS J w (a7V sLt (a3z p z) c l (a1V l R p) p day).1):=by
 refine enter Tryz.func21 Tryz.call21 rfl Tryz.ntmps21 rfl (fun w0=>?_);refine go 3 ?_;refine a0B _ rfl rfl rfl (fun g5=>?_);refine go 11 ?_;refine a0O (a7R _ vc c hvc hsc v l hv hl hsl R hRt p day) rfl rfl (fun v24 I24 j24 q24=>?_)
 try have hvc:=hvc.le j24
 try have hv:=hv.le j24
 try have hW:=hW.le j24
 try have hv12:=hv12.le j24
 try have hv14:=hv14.le j24
 obtain⟨w24,rfl,hw24⟩:=q24;obtain⟨W,hWe⟩:∃q,q=(csF c l (a1V l R p) p day):=⟨_,rfl⟩;rw[←hWe]at hw24 ⊢
 have hWl:W.1.length≤4096:=by rw[hWe];exact b8L
 have hWm:=fun i (h:i<W.1.length)=>b8M (c:=c) (l:=l) (own:=(a1V l R p)) (p:=p) (day:=day) (s:=W.1[i]) (by rw[←hWe];exact List.getElem_mem h)
 obtain⟨AW,cW,rfl,hW,_,_⟩:=hw24;refine go 19 ?_;refine a0b ?_
 refine a2L ((0:Nat)) (_) (_) (fun i v14 J=>J)
  (fun i v14 J=>[(2,.string p),(3,.string z),(12,.slice AW W.1.length cW),(13,.int .i64 (W.2)),(14,v14),(15,.int .i64 ((i:Nat):Int))])
  (fun i v14 J=>[])
  (fun i v14 J=>i≤W.1.length∧ILe I24 J∧RdS J v14 (a9Z sLt ((W.1.take i).map (a3z p z))))
  (fun i v14 J=>W.1.length-i) ⟨Nat.zero_le _,ILe.refl _,RdS.nil'⟩ rfl sb rfl ?_
 intro i v14 J ⟨hi,hJ,hv14⟩
 have hW:=hW.le hJ
 have hsl2:=b4U (lt:=sLt) (L:=W.1) (i:=i) (f:=a3z p z)
 refine go 9 ?_;refine cb rfl (fun h30 p30=>?_) (fun h30 p30=>?_)
 ·have hlt:i<W.1.length:=by omega
  obtain⟨hV,hP,_⟩:=hWm i hlt;refine go 16 ?_
  refine a1z ((0:Nat)) (a0Z) (fun k n=>J)
   (fun k n=>[(2,.string p),(3,.string z),(12,.slice AW W.1.length cW),(13,.int .i64 (W.2)),(14,v14),(15,.int .i64 ((i:Nat):Int)),(16,.string n),(17,.int .i64 ((k:Nat):Int))])
   (fun k n=>[])
   (fun k n=>k≤W.1[i].length∧n=b7u p z (W.1[i].take k))
   (fun k n=>W.1[i].length-k) ⟨Nat.zero_le _,rfl⟩ rfl sb rfl ?_
  intro k n ⟨hk,hn⟩;refine go 6 ?_;obtain⟨b36,o36,w36,e36,c36,r36⟩:=RdA.at_ hW (i:=i) hlt;obtain⟨s36,rfl,B36,b36,rfl,hB36,hb36,hm36⟩:=r36;refine o_v rfl (a0h he rfl rfl e36 (i) (by omega) hlt) ?_;refine go 1 ?_;refine o_v rfl (a0K he rfl (c36 0 _ rfl)) ?_;refine go 4 ?_;refine cb rfl (fun h40 p40=>?_) (fun h40 p40=>?_)
  ·have hlk:k<W.1[i].length:=by omega
   refine go 8 ?_;obtain⟨b45,o45,w45,e45,c45,r45⟩:=RdA.at_ hW (i:=i) hlt;obtain⟨s45,rfl,B45,b45,rfl,hB45,hb45,hm45⟩:=r45;refine o_v rfl (a0h he rfl rfl e45 (i) (by omega) hlt) ?_;refine go 1 ?_;refine o_v rfl (a0K he rfl (c45 0 _ rfl)) ?_;refine go 1 ?_;obtain⟨b49,o49,w49,e49,c49,r49⟩:=RdA.at_ hB45 (i:=k) hlk;obtain⟨q49,rfl,B49,d49,rfl,hB49,hd49,hm49⟩:=r49;refine o_v rfl (a0h he rfl rfl e49 (k) (by omega) hlk) ?_;refine o_v rfl (a0G he rfl c49 rfl) ?_;refine go 1 ?_;refine a0j he rfl (fun g18=>?_);refine go 1 ?_;refine a0p _ he rfl rfl rfl rfl rfl rfl ?_;refine go 9 ?_;refine sxb 55 rfl (fun h55 p55=>?_) (fun h55 p55=>?_)
   ·refine go 7 ?_;refine cb rfl (fun h60 p60=>?_) (fun h60 p60=>?_)
    ·refine go 13 ?_;refine a0b ?_;exact a0X (k+1) (W.1[i][k].name) ⟨by omega,by rw[b1U hlk,if_pos (by simp[a7m,p55,p60])]⟩ (by omega) rfl sb rfl
    ·refine go 9 ?_;refine a0b ?_;exact a0X (k+1) (n) ⟨by omega,by rw[b1U hlk,if_neg (by simp only[a7m,Bool.and_eq_true,decide_eq_true_eq];exact fun h=>p60 h.2)];exact hn⟩ (by omega) rfl sb rfl
   ·refine go 7 ?_;refine a0T rfl ?_;refine go 9 ?_;refine a0b ?_;exact a0X (k+1) (n) ⟨by omega,by rw[b1U hlk,if_neg (by simp only[a7m,Bool.and_eq_true,decide_eq_true_eq];exact fun h=>p55 h.1)];exact hn⟩ (by omega) rfl sb rfl
  ·obtain rfl:k=W.1[i].length:=by omega
   rw[List.take_length,c2V hV (c7C hV hP)]at hn
   subst hn;refine go 9 ?_;refine a0O (b3r _ _ _ hv14 (by omega) (a3z p z W.1[i])) rfl rfl (fun v65 I65 j65 q65=>?_)
   try have hvc:=hvc.le j65
   try have hv:=hv.le j65
   try have hW:=hW.le j65
   try have hv12:=hv12.le j65
   try have hv14:=hv14.le j65
   refine go 10 ?_;exact a1M (i+1) (_) (_) ⟨by omega,hJ.trans j65,by rw[c0W hlt];exact q65⟩ (by omega) rfl sb rfl
 ·refine go 14 ?_;refine a1F rfl rfl rfl ?_;obtain rfl:i=W.1.length:=by omega
  rw[List.take_length]at hv14
  exact q_i ⟨_,by rw[b0S,←hWe],by rw[b0S,←hWe];exact hv14⟩
theorem c6L (I:IMap) (v:Value) (l:List Part) (hv:RdS I v l) (hl:l.length≤1000000) (s:ByteArray) :
    FnI Tryz.prog 118 #[.agg #[v],.string s] I (fun u J=>∃w,u = .tuple #[w,.bool (b3Q l (l.length+1) s)]∧RdS J w (a6g l (l.length+1) s)):=by
 have hv0:=hv
 obtain⟨A,c0,rfl,hA,hc,hm⟩:=hv;refine enter Tryz.func118 Tryz.call118 rfl Tryz.ntmps118 rfl (fun w0=>?_);refine go 3 ?_;refine a0B _ rfl rfl rfl (fun g2=>?_);refine go 6 ?_;refine a1f 9 1 ?_;refine go 5 ?_
 refine a5x (s) ([]) (none) ((0:Nat)) ([]) (fun n out A1 k1 xs=>I)
  (fun n out A1 k1 xs=>[(1,.string n),(2,.pointer (some ⟨g2,0,none⟩)),(6,.slice A1 out.length k1)])
  (fun n out A1 k1 xs=>[.row (.slice A1 out.length k1) 9 1 out.length xs,.blk g2 53 [.slice A l.length c0]])
  (fun n out A1 k1 xs=>out.length≤l.length+1∧Flat I xs out∧out++a6g l (l.length+1-out.length) n=a6g l (l.length+1) s∧b3Q l (l.length+1-out.length) n=b3Q l (l.length+1) s)
  (fun n out A1 k1 xs=>l.length+1-out.length) ⟨Nat.zero_le _,.nil,rfl,rfl⟩ rfl sb rfl ?_
 intro n out A1 k1 xs ⟨ho,hF,hq,hw⟩;refine go 11 ?_;refine cb rfl (fun h14 p14=>?_) (fun h14 p14=>?_)
 ·have hot:¬l.length+1≤out.length:=by omega
  refine go 8 ?_;refine a2p (c0t _ _ l hv0 n) rfl rfl (fun v18 q18=>?_);obtain⟨vs18,rfl,s18,rfl,hs18⟩:=q18;refine go 4 ?_;refine a0j he rfl (fun g7=>?_);refine go 1 ?_;refine a0p _ he rfl rfl rfl rfl rfl (Enc.one (α:=Part) (I:=I) (x:=((a0E l n).getD zPart)) ⟨s18,rfl,hs18⟩) ?_;refine go 10 ?_;refine cb rfl (fun h22 p22=>?_) (fun h22 p22=>?_)
  ·refine go 13 ?_;refine a1F rfl rfl rfl ?_;refine a0b ?_;refine a0f ?_;refine a0b ?_;refine a0l (l:=out) rfl rfl hF (fun I9 j9 R9=>?_);exact q_i ⟨_,by rw[←hw,c1A hot (by simpa using h22)],by rw[c4j hot (by simpa using h22) hq];exact R9⟩
  ·have hfs:(a0E l n).isSome=true:=by simpa using h22
   refine go 7 ?_;refine a0c he he rfl rfl rfl rfl rfl rfl rfl (fun v26=>?_);refine go 1 ?_;refine a0o ?_;refine a0v he he rfl rfl rfl rfl rfl (by omega) (by omega) rfl (fun v27=>?_);refine a2Q (fun A27 c27 hv27=>?_);subst hv27;refine go 11 ?_;refine cb rfl (fun h30 p30=>?_) (fun h30 p30=>?_)
   ·refine go 13 ?_;refine a1F rfl rfl rfl ?_;refine a0f ?_;refine a0b ?_;refine a0f ?_;refine a0b ?_;refine a0f ?_;refine a0b ?_;refine a0l (l:=out++[n]) rfl (by simp) (hF.append (.one rfl)) (fun I9 j9 R9=>?_);exact q_i ⟨_,by rw[←hw,c4h hot hfs p30],by rw[c7F hot hfs p30 hq];exact R9⟩
   ·refine go 9 ?_;refine a0f ?_;refine a0b ?_;refine a0f ?_;refine a0b ?_;exact a1T (upP l n) (out++[n]) (A27) (c27) (_) ⟨by simp;omega,hF.append (.one rfl),c4i (by omega) hfs p30 hq,by rw[List.length_append,List.length_singleton,←c1z hot hfs p30];exact hw⟩ (by simp;omega) rfl ⟨rfl,rfl,congrArg (fun z:Nat=>some (Value.slice A27 z c27)) (by simp),trivial⟩ (by rw[List.length_append];rfl)
 ·refine go 13 ?_;refine a1F rfl rfl rfl ?_;refine a0f ?_;refine a0b ?_;refine a0l (l:=out) rfl rfl hF (fun I9 j9 R9=>?_);exact q_i ⟨_,by rw[←hw,c4g (by omega)],by rw[c7E (by omega) hq];exact R9⟩
theorem c6K (I:IMap) (v:Value) (l:List Part) (hv:RdS I v l) (hl:l.length≤1000000) (c:List Kind) (hV:VS c l) (s:ByteArray) (hP:a0E l s=some (b1Z l s)) :
    FnI Tryz.prog 64 #[.agg #[v],.string s] I (fun u J=>u = .string (a7k s l)):=by
 have hv0:=hv
 obtain⟨A,c0,rfl,hA,hc,hm⟩:=hv;refine enter Tryz.func64 Tryz.call64 rfl Tryz.ntmps64 rfl (fun w0=>?_);refine go 3 ?_;refine a0B _ rfl rfl rfl (fun g2=>?_);refine go 8 ?_;refine a0O (c6L _ _ l hv0 hl s) rfl rfl (fun v10 I10 j10 q10=>?_);obtain⟨w10,rfl,hw10⟩:=q10;obtain⟨e1,e2,e3⟩:=c4k hV hP;rw[e1];obtain⟨AW,cW,rfl,hW,_,_⟩:=hw10;refine go 14 ?_;refine cb rfl (fun h14 p14=>?_) (fun h14 p14=>?_)
 ·refine go 7 ?_;refine a0s rfl rfl ?_;exact absurd h14 (by decide)
 ·refine go 7 ?_;refine o_v rfl (OV.cast (u:=.int .i64 ((((a6g l (l.length+1) s).length-1):Nat):Int)) (a1m rfl rfl ⟨by omega,by omega⟩) (congrArg (Value.int .i64) (by omega))) ?_;obtain⟨b19,o19,w19,e19,c19,r19⟩:=RdA.at_ hW (i:=((a6g l (l.length+1) s).length-1)) (by omega);rw[e3 _]at r19
  obtain rfl:=r19;refine o_v rfl (a0h he rfl rfl e19 (((a6g l (l.length+1) s).length-1)) (by omega) (by omega)) ?_;refine o_v rfl (a0K he rfl (c19 0 _ rfl)) ?_;refine go 4 ?_;refine a0s rfl rfl ?_;exact q_i rfl
theorem b7S (I:IMap) (vc:Value) (c:List Kind) (hvc:RdS I vc c) (hsc:SmC c) (v:Value) (l:List Rep) (hv:RdS I v l) (hl:l.length≤1000000) (hsl:∀r∈l,∀e∈r.options,SmE e) (R:Nat→Nat) (hRt:Rts l R) (p:ByteArray) (day:Int) :
    FnI Tryz.prog 23 #[.agg #[vc],v,.string p,.int .i64 (day)] I (fun u J=>∃w,u = .tuple #[w,.int .i64 (a7V sLt (a7k p) c l (a1V l R p) p day).2]∧RdS J w (a7V sLt (a7k p) c l (a1V l R p) p day).1):=by
 refine enter Tryz.func23 Tryz.call23 rfl Tryz.ntmps23 rfl (fun w0=>?_);refine go 3 ?_;refine a0B _ rfl rfl rfl (fun g4=>?_);refine go 11 ?_;refine a0O (a7R _ vc c hvc hsc v l hv hl hsl R hRt p day) rfl rfl (fun v19 I19 j19 q19=>?_)
 try have hvc:=hvc.le j19
 try have hv:=hv.le j19
 try have hW:=hW.le j19
 try have hv12:=hv12.le j19
 try have hv14:=hv14.le j19
 obtain⟨w19,rfl,hw19⟩:=q19;obtain⟨W,hWe⟩:∃q,q=(csF c l (a1V l R p) p day):=⟨_,rfl⟩;rw[←hWe]at hw19 ⊢
 have hWl:W.1.length≤4096:=by rw[hWe];exact b8L
 have hWm:=fun i (h:i<W.1.length)=>b8M (c:=c) (l:=l) (own:=(a1V l R p)) (p:=p) (day:=day) (s:=W.1[i]) (by rw[←hWe];exact List.getElem_mem h)
 obtain⟨AW,cW,rfl,hW,_,_⟩:=hw19;refine go 19 ?_;refine a0b ?_
 refine a2L ((0:Nat)) (_) (_) (fun i v12 J=>J)
  (fun i v12 J=>[(2,.string p),(10,.slice AW W.1.length cW),(11,.int .i64 (W.2)),(12,v12),(13,.int .i64 ((i:Nat):Int))])
  (fun i v12 J=>[])
  (fun i v12 J=>i≤W.1.length∧ILe I19 J∧RdS J v12 (a9Z sLt ((W.1.take i).map (a7k p))))
  (fun i v12 J=>W.1.length-i) ⟨Nat.zero_le _,ILe.refl _,RdS.nil'⟩ rfl sb rfl ?_
 intro i v12 J ⟨hi,hJ,hv12⟩
 have hW:=hW.le hJ
 have hsl2:=b4U (lt:=sLt) (L:=W.1) (i:=i) (f:=a7k p)
 refine go 9 ?_;refine cb rfl (fun h25 p25=>?_) (fun h25 p25=>?_)
 ·have hlt:i<W.1.length:=by omega
  obtain⟨hV,hP,hL⟩:=hWm i hlt
  have hcl2:=a6x (l:=l) (R:=R) (p:=p)
  refine go 8 ?_;obtain⟨b31,o31,w31,e31,c31,r31⟩:=RdA.at_ hW (i:=i) hlt;obtain⟨s31,rfl,hs31⟩:=r31;refine o_v rfl (a0h he rfl rfl e31 (i) (by omega) hlt) ?_;refine o_v rfl (a0G he rfl c31 rfl) ?_;refine go 2 ?_;refine a0O (c6K _ _ _ hs31 (by omega) c hV p hP) rfl rfl (fun v34 I34 j34 q34=>?_)
  try have hvc:=hvc.le j34
  try have hv:=hv.le j34
  try have hW:=hW.le j34
  try have hv12:=hv12.le j34
  try have hv14:=hv14.le j34
  obtain rfl:=q34;refine go 1 ?_;refine a0O (b3r _ _ _ hv12 (by omega) (a7k p W.1[i])) rfl rfl (fun v35 I35 j35 q35=>?_)
  try have hvc:=hvc.le j35
  try have hv:=hv.le j35
  try have hW:=hW.le j35
  try have hv12:=hv12.le j35
  try have hv14:=hv14.le j35
  refine go 10 ?_;exact a1M (i+1) (_) (_) ⟨by omega,hJ.trans (j34.trans j35),by rw[c0W hlt];exact q35⟩ (by omega) rfl sb rfl
 ·refine go 14 ?_;refine a1F rfl rfl rfl ?_;obtain rfl:i=W.1.length:=by omega
  rw[List.take_length]at hv12
  exact q_i ⟨_,by rw[b0S,←hWe],by rw[b0S,←hWe];exact hv12⟩
end Go.Proofs.YtdapmfkbpnjkmaaGreat
