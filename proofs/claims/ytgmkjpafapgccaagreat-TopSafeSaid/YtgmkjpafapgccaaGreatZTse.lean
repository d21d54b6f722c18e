
import Derived.Test.YtgmkjpafapgccaaGreatZTsd
import Derived.Ground.NamesProg
import Derived.Ground.SlsfProg
import Derived.Shelf.SlGeneric
import Derived.Shelf.SlSortCmp.NoneTotal
import Derived.Shelf.Small.Strs
import Derived.Shelf.Sort.Plain
import Derived.Test.YtgmkjpafapgccaaGreatProg
namespace Go.Proofs.YtgmkjpafapgccaaGreat
open Go Go.Sx Tryz
set_option linter.all false
set_option maxRecDepth 20000
set_option maxHeartbeats 4000000
instance:Has (a2j prog 390) ([.int .i64 0,.int .i64 0,.string ⟨#[]⟩,.string ⟨#[]⟩,.string ⟨#[]⟩,.string ⟨#[]⟩,.string ⟨#[]⟩,.string ⟨#[]⟩,.int .i64 0,.int .i64 0,.int .i64 0,.int .i64 0,.int .i64 0,.int .i64 0,.int .i64 0],15,168):=hk
instance:Has (a6J prog 388) (390,15):=hk
instance:Has (a1k prog 390 0) (0,true,14):=hk
instance:Has (a1k prog 390 1) (14,false,1):=hk
instance:Has (plK prog 390) [(0,14),(14,1)]:=hk
instance:Has (tyK prog 390) (true,15):=hk
instance:Has (prog.underlying 388) (.slice 390):=hk
instance:Has (a1o prog 390) [.int .i64 0,.int .i64 0,.string ⟨#[]⟩,.string ⟨#[]⟩,.string ⟨#[]⟩,.string ⟨#[]⟩,.string ⟨#[]⟩,.string ⟨#[]⟩,.int .i64 0,.int .i64 0,.int .i64 0,.int .i64 0,.int .i64 0,.int .i64 0,.int .i64 0]:=hk
theorem a8P (I:IMap) {rest:Rst 15} {cap:Nat} (l:List Pkd) (N:Nat) (hN:l.length=N) (g a b n:Nat) (f:FuncId) (h:a+n≤b) (hb:b+n≤l.length) (hl:l.length≤1000000) :
    FnM prog 354 #[.slice (some ⟨g,0,none⟩) N cap,.int .i64 ((a:Nat):Int),.int .i64 ((b:Nat):Int),.int .i64 ((n:Nat):Int),.func (.func f) #[] #[]] I (.blk g 390 (a1u (l)++rest.l).flatten) (.blk g 390 (a1u (a9H l a b n)++rest.l).flatten):=by
 refine enter func354 call354 rfl ntmps354 rfl fun w0=>?_;refine go 6 ?_
 refine a0x (α:=Nat) 0 (fun i=>I)
  (fun i=>[(0,.slice (some ⟨g,0,none⟩) N cap),(1,.int .i64 ((a:Nat):Int)),(2,.int .i64 ((b:Nat):Int)),(3,.int .i64 ((n:Nat):Int)),(10,.int .i64 ((i:Nat):Int))])
  (fun i=>[.blk g 390 (a1u (a9H l a b i)++rest.l).flatten])
  (fun i=>i≤n)
  (fun i=>n-i) (Nat.zero_le _) rfl sb rfl ?_
 intro i hi;refine gC 8 (fun h13 p13=>?_) fun h13 p13=>?_
 ·have hlt:i<n:=oM;have hm:=a3R l a b i;have h1:a+i<(a9H l a b i).length:=oM;have h2:b+i<(a9H l a b i).length:=oM;refine go 4 ?_;refine ds1 ?_;refine dG 0 12 ?_;refine a0F 12 rfl rfl (by kernel_rfl) rfl (.cons _ .slnil) rfl (a0l he rfl rfl rfl (b+i) oM oM) ?_;refine dG 14 4 ?_;refine a0F 18 rfl rfl (by kernel_rfl) rfl (.cons _ .slnil) rfl (a0l he rfl rfl rfl (a+i) oM oM) ?_;refine dT2 13 19 ?_ ?_
  ·refine a0q rfl (a1H m0 ((a0p _).append rest.uk) he rfl (b+i) oM (a0G h2)) ?_;refine dH 19 0 ?_;refine a0q rfl (a1H m0 ((a0p _).append rest.uk) he rfl (a+i) oM (a0G h1)) ?_;refine go 1 ?_;refine a0F 20 rfl rfl (by kernel_rfl) rfl (.cons _ .slnil) rfl (a0l he rfl rfl rfl (a+i) oM oM) ?_;refine dH 21 0 ?_;refine a1U _ (a+i) (by first|exact (a0p _).append rest.uk|exact ((a0p _).append rest.uk).set rfl _) he rfl rfl rfl rfl rfl oM (by simp[a0t];omega) ?_;refine go 1 ?_;refine a0F 22 rfl rfl (by kernel_rfl) rfl (.cons _ .slnil) rfl (a0l he rfl rfl rfl (b+i) oM oM) ?_;refine dH 23 0 ?_;refine a1U _ (b+i) (by first|exact (a0p _).append rest.uk|exact ((a0p _).append rest.uk).set rfl _) he rfl rfl rfl rfl rfl oM (by simp[a0t];omega) ?_;refine go 10 ?_;exact a0w (i+1) oM oM rfl sb (by rw[a9H];first|rw[←a3Y h1 h2] | rw[←a3c h1 h2 oM])
  ·refine a0q rfl (a1H m0 ((a0p _).append rest.uk) he rfl (a+i) oM (a0G h1)) ?_;refine dH 13 0 ?_;refine a0q rfl (a1H m0 ((a0p _).append rest.uk) he rfl (b+i) oM (a0G h2)) ?_;refine go 1 ?_;refine a0F 20 rfl rfl (by kernel_rfl) rfl (.cons _ .slnil) rfl (a0l he rfl rfl rfl (a+i) oM oM) ?_;refine dH 21 0 ?_;refine a1U _ (a+i) (by first|exact (a0p _).append rest.uk|exact ((a0p _).append rest.uk).set rfl _) he rfl rfl rfl rfl rfl oM (by simp[a0t];omega) ?_;refine go 1 ?_;refine a0F 22 rfl rfl (by kernel_rfl) rfl (.cons _ .slnil) rfl (a0l he rfl rfl rfl (b+i) oM oM) ?_;refine dH 23 0 ?_;refine a1U _ (b+i) (by first|exact (a0p _).append rest.uk|exact ((a0p _).append rest.uk).set rfl _) he rfl rfl rfl rfl rfl oM (by simp[a0t];omega) ?_;refine go 10 ?_;exact a0w (i+1) oM oM rfl sb (by rw[a9H];first|rw[←a3Y h1 h2] | rw[←a3c h1 h2 oM])
 ·refine go 5 ?_;obtain rfl:i=n:=oM;exact q_m
theorem b8a (I:IMap) {rest:Rst 15} {cap:Nat} (l:List Pkd) (N:Nat) (hN:l.length=N) (g a b:Nat) (f:FuncId) (hp:∀x y:Pkd,FnV prog f #[.agg (Day.ch x).toArray,.agg (Day.ch y).toArray] I (.int .i64 ((Day.day x-Day.day y)))) (hab:a≤b) (hb:b≤l.length) (hl:l.length≤1000000) :
    FnX prog 343 #[.slice (some ⟨g,0,none⟩) N cap,.int .i64 ((a:Nat):Int),.int .i64 ((b:Nat):Int),.func (.func f) #[] #[]] I [.blk g 390 (a1u (l)++rest.l).flatten] (fun u r=>u = .tuple #[]∧∃m,r = .blk g 390 (a1u (m)++rest.l).flatten∧Seg l m a b):=by
 refine enter func343 call343 rfl ntmps343 rfl fun w0=>?_;refine go 3 ?_;refine o_v rfl (OV.cast (u:=.int .i64 ((a+1:Nat):Int)) (a2u rfl rfl ⟨oM,oM⟩) (congrArg (Value.int .i64) oM)) ?_;refine go 4 ?_
 refine a0B (a+1) (l) (fun i m=>I)
  (fun i m=>[(0,.slice (some ⟨g,0,none⟩) N cap),(1,.int .i64 ((a:Nat):Int)),(2,.int .i64 ((b:Nat):Int)),(3,.func (.func f) #[] #[]),(8,.int .i64 ((i:Nat):Int))])
  (fun i m=>[.blk g 390 (a1u (m)++rest.l).flatten])
  (fun i m=>a+1≤i∧(i≤b∨(m=l∧i=a+1))∧Seg l m a i)
  (fun i m=>b-i) ⟨Nat.le_refl _,.inr ⟨rfl,rfl⟩,Seg.one l a⟩ rfl sb rfl ?_
 intro i m ⟨h1,h2,hs⟩;refine gC 8 (fun h14 p14=>?_) fun h14 p14=>?_
 ·have hlt:i<b:=oM;refine go 11 ?_
  refine a0B (i) (m) (fun j k=>I)
   (fun j k=>[(0,.slice (some ⟨g,0,none⟩) N cap),(1,.int .i64 ((a:Nat):Int)),(2,.int .i64 ((b:Nat):Int)),(3,.func (.func f) #[] #[]),(8,.int .i64 ((i:Nat):Int)),(9,.int .i64 ((j:Nat):Int))])
   (fun j k=>[.blk g 390 (a1u (k)++rest.l).flatten])
   (fun j k=>a≤j∧j≤i∧Ins l k a i j)
   (fun j k=>j) ⟨oM,Nat.le_refl _,Ins.start hs⟩ rfl sb rfl ?_
  intro j k ⟨hj1,hj2,hk⟩;have hkl:=hk.len;refine go 3 ?_;refine dG 0 4 ?_;refine gS 0 21 (fun h21 p21=>?_) fun h21 p21=>?_
  ·have hjk:j<k.length:=oM;have hjk1:j-1<k.length:=oM;refine dG 4 3 ?_;refine d_t 7 rfl rfl (by kernel_rfl) rfl (fun _ m=>m.keeps (.refl _)) (a1O rfl rfl h21 (a0l he rfl rfl rfl (j) oM oM)) ?_;refine d_t 8 rfl rfl (by kernel_rfl) rfl (fun _ m=>m.keeps (.refl _)) (a1O rfl rfl h21 (a1H m0 ((a0p _).append rest.uk) he rfl (j) oM (a0G hjk))) ?_;refine dG 9 3 ?_;refine d_t 12 rfl rfl (by kernel_rfl) rfl (fun _ m=>m.keeps (.refl _)) (a1O rfl rfl h21 (a0l he rfl rfl rfl (j-1) oM oM)) ?_;refine d_t 13 rfl rfl (by kernel_rfl) rfl (fun _ m=>m.keeps (.refl _)) (a1O rfl rfl h21 (a1H m0 ((a0p _).append rest.uk) he rfl (j-1) oM (a0G hjk1))) ?_;refine dH 14 0 ?_;refine a0n rfl rfl h21 (a0y (hp _ _) rfl rfl ?_);refine dG 15 2 ?_;refine gC 2 (fun h34 p34=>?_) fun h34 p34=>?_
   ·refine go 4 ?_;refine ds1 ?_;refine dG 0 8 ?_;refine a0F 8 rfl rfl (by kernel_rfl) rfl (.cons _ .slnil) rfl (a0l he rfl rfl rfl (j-1) oM oM) ?_;refine dG 10 2 ?_;refine a0F 12 rfl rfl (by kernel_rfl) rfl (.cons _ .slnil) rfl (a0l he rfl rfl rfl (j) oM oM) ?_;refine dT2 9 13 ?_ ?_
    ·refine a0q rfl (a1H m0 ((a0p _).append rest.uk) he rfl (j-1) oM (a0G hjk1)) ?_;refine dH 13 0 ?_;refine a0q rfl (a1H m0 ((a0p _).append rest.uk) he rfl (j) oM (a0G hjk)) ?_;refine go 1 ?_;refine a0F 14 rfl rfl (by kernel_rfl) rfl (.cons _ .slnil) rfl (a0l he rfl rfl rfl (j) oM oM) ?_;refine dH 15 0 ?_;refine a1U _ (j) (by first|exact (a0p _).append rest.uk|exact ((a0p _).append rest.uk).set rfl _) he rfl rfl rfl rfl rfl oM (by simp[a0t];omega) ?_;refine go 1 ?_;refine a0F 16 rfl rfl (by kernel_rfl) rfl (.cons _ .slnil) rfl (a0l he rfl rfl rfl (j-1) oM oM) ?_;refine dH 17 0 ?_;refine a1U _ (j-1) (by first|exact (a0p _).append rest.uk|exact ((a0p _).append rest.uk).set rfl _) he rfl rfl rfl rfl rfl oM (by simp[a0t];omega) ?_;refine go 6 ?_;refine o_v rfl (OV.cast (u:=.int .i64 ((j-1:Nat):Int)) (a1j rfl rfl ⟨oM,oM⟩) (congrArg (Value.int .i64) oM)) ?_;refine go 3 ?_;exact a0o (j-1) (swp k j (j-1)) ⟨oM,oM,hk.step oM oM oM (by have:=p34;simp only[a8d]at this;rw[a1e oM,a1e oM];exact this)⟩ oM rfl sb (by first|rw[←a3Y (show j<k.length from oM) (show j-1<k.length from oM)] | rw[←a3c (show j<k.length from oM) (show j-1<k.length from oM) oM])
    ·refine a0q rfl (a1H m0 ((a0p _).append rest.uk) he rfl (j) oM (a0G hjk)) ?_;refine dH 9 0 ?_;refine a0q rfl (a1H m0 ((a0p _).append rest.uk) he rfl (j-1) oM (a0G hjk1)) ?_;refine go 1 ?_;refine a0F 14 rfl rfl (by kernel_rfl) rfl (.cons _ .slnil) rfl (a0l he rfl rfl rfl (j) oM oM) ?_;refine dH 15 0 ?_;refine a1U _ (j) (by first|exact (a0p _).append rest.uk|exact ((a0p _).append rest.uk).set rfl _) he rfl rfl rfl rfl rfl oM (by simp[a0t];omega) ?_;refine go 1 ?_;refine a0F 16 rfl rfl (by kernel_rfl) rfl (.cons _ .slnil) rfl (a0l he rfl rfl rfl (j-1) oM oM) ?_;refine dH 17 0 ?_;refine a1U _ (j-1) (by first|exact (a0p _).append rest.uk|exact ((a0p _).append rest.uk).set rfl _) he rfl rfl rfl rfl rfl oM (by simp[a0t];omega) ?_;refine go 6 ?_;refine o_v rfl (OV.cast (u:=.int .i64 ((j-1:Nat):Int)) (a1j rfl rfl ⟨oM,oM⟩) (congrArg (Value.int .i64) oM)) ?_;refine go 3 ?_;exact a0o (j-1) (swp k j (j-1)) ⟨oM,oM,hk.step oM oM oM (by have:=p34;simp only[a8d]at this;rw[a1e oM,a1e oM];exact this)⟩ oM rfl sb (by first|rw[←a3Y (show j<k.length from oM) (show j-1<k.length from oM)] | rw[←a3c (show j<k.length from oM) (show j-1<k.length from oM) oM])
   ·refine go 12 ?_;exact a0o (i+1) (k) ⟨oM,.inl oM,hk.done oM oM (.inr (by have:=p34;simp only[a8d]at this;rw[a1e oM,a1e oM];omega))⟩ oM rfl sb rfl
  ·refine dG 4 13 ?_;refine go 15 ?_;exact a0o (i+1) (k) ⟨oM,.inl oM,hk.done oM oM (.inl oM)⟩ oM rfl sb rfl
 ·refine go 5 ?_;exact q_x (by refine⟨rfl,m,rfl,?_⟩;rcases h2 with h2|⟨rfl,h2⟩;exact (show i=b from oM)▸hs;exact Seg.none oM)
theorem d2c (I:IMap) {rest:Rst 15} {cap:Nat} (l:List Pkd) (N:Nat) (hN:l.length=N) (g a m b:Nat) (f:FuncId) (ham:a<m) (hmb:m<b) (hb:b≤l.length) (hl:l.length≤1000000) :
    FnX prog 352 #[.slice (some ⟨g,0,none⟩) N cap,.int .i64 ((a:Nat):Int),.int .i64 ((m:Nat):Int),.int .i64 ((b:Nat):Int),.func (.func f) #[] #[]] I [.blk g 390 (a1u (l)++rest.l).flatten] (fun u r=>u = .tuple #[]∧∃k,r = .blk g 390 (a1u (k)++rest.l).flatten∧k.length=l.length∧∀q,k[q]? = a8K (l[·]?) m (m-a) (b-m) q):=by
 refine enter func352 call352 rfl ntmps352 rfl fun w0=>?_;refine go 4 ?_;refine o_v rfl (OV.cast (u:=.int .i64 ((m-a:Nat):Int)) (a1j rfl rfl ⟨oM,oM⟩) (congrArg (Value.int .i64) oM)) ?_;refine go 7 ?_;refine o_v rfl (OV.cast (u:=.int .i64 ((b-m:Nat):Int)) (a1j rfl rfl ⟨oM,oM⟩) (congrArg (Value.int .i64) oM)) ?_;refine go 5 ?_
 refine a4d (m-a) (b-m) (l) (fun i j k=>I)
  (fun i j k=>[(0,.slice (some ⟨g,0,none⟩) N cap),(1,.int .i64 ((a:Nat):Int)),(2,.int .i64 ((m:Nat):Int)),(3,.int .i64 ((b:Nat):Int)),(4,.func (.func f) #[] #[]),(10,.int .i64 ((i:Nat):Int)),(11,.int .i64 ((j:Nat):Int))])
  (fun i j k=>[.blk g 390 (a1u (k)++rest.l).flatten])
  (fun i j k=>1≤i∧1≤j∧i≤m∧m+j≤l.length∧k.length=l.length∧∀q,a8K (k[·]?) m i j q=a8K (l[·]?) m (m-a) (b-m) q)
  (fun i j k=>i+j) ⟨oM,oM,oM,oM,rfl,fun q=>rfl⟩ rfl sb rfl ?_
 intro i j k ⟨hi1,hj1,him,hmj,hkl,hk⟩;refine gC 8 (fun h20 p20=>?_) fun h20 p20=>?_
 ·refine gC 10 (fun h23 p23=>?_) fun h23 p23=>?_
  ·refine go 5 ?_;refine o_v rfl (OV.cast (u:=.int .i64 ((m-i:Nat):Int)) (a1j rfl rfl ⟨oM,oM⟩) (congrArg (Value.int .i64) oM)) ?_;refine go 4 ?_;refine a2V (a8P _ k N oM g (m-i) m j f oM oM oM) rfl rfl ?_;refine go 5 ?_;refine o_v rfl (OV.cast (u:=.int .i64 ((i-j:Nat):Int)) (a1j rfl rfl ⟨oM,oM⟩) (congrArg (Value.int .i64) oM)) ?_;refine go 4 ?_;exact a2n (i-j) (j) (a9H k (m-i) m j) ⟨oM,oM,oM,oM,(a3R _ _ _ _).trans hkl,fun q=>(c9o oM oM (a5F _ oM oM) q).trans (hk q)⟩ oM rfl sb rfl
  ·refine go 5 ?_;refine o_v rfl (OV.cast (u:=.int .i64 ((m-i:Nat):Int)) (a1j rfl rfl ⟨oM,oM⟩) (congrArg (Value.int .i64) oM)) ?_;refine go 4 ?_;refine o_v rfl (OV.cast (u:=.int .i64 ((m+j-i:Nat):Int)) (a1j rfl rfl ⟨oM,oM⟩) (congrArg (Value.int .i64) oM)) ?_;refine go 3 ?_;refine a2V (a8P _ k N oM g (m-i) (m+j-i) i f oM oM oM) rfl rfl ?_;refine go 5 ?_;refine o_v rfl (OV.cast (u:=.int .i64 ((j-i:Nat):Int)) (a1j rfl rfl ⟨oM,oM⟩) (congrArg (Value.int .i64) oM)) ?_;refine go 4 ?_;exact a2n (i) (j-i) (a9H k (m-i) (m+j-i) i) ⟨oM,oM,oM,oM,(a3R _ _ _ _).trans hkl,fun q=>(c9p oM oM (a5F _ oM oM) q).trans (hk q)⟩ oM rfl sb rfl
 ·obtain rfl:i=j:=by have:=p20;omega
  refine go 9 ?_;refine o_v rfl (OV.cast (u:=.int .i64 ((m-i:Nat):Int)) (a1j rfl rfl ⟨oM,oM⟩) (congrArg (Value.int .i64) oM)) ?_;refine go 4 ?_;refine a2V (a8P _ k N oM g (m-i) m i f oM oM oM) rfl rfl ?_;refine go 2 ?_;exact q_x ⟨rfl,a9H k (m-i) m i,rfl,(a3R _ _ _ _).trans hkl,fun q=>(c9n him (a5F _ oM oM) q).trans (hk q)⟩
theorem c0M (I:IMap) {rest:Rst 15} {cap:Nat} (N g:Nat) (f:FuncId) (hp:∀x y:Pkd,FnV prog f #[.agg (Day.ch x).toArray,.agg (Day.ch y).toArray] I (.int .i64 ((Day.day x-Day.day y)))) (hN0:N≤1000000) (W:Nat) (ih:∀(l:List Pkd) (a m b:Nat),l.length=N→b-a<W→a<m→m<b→b≤l.length→SrtD l a m→SrtD l m b→FnX prog 344 #[.slice (some ⟨g,0,none⟩) N cap,.int .i64 ((a:Nat):Int),.int .i64 ((m:Nat):Int),.int .i64 ((b:Nat):Int),.func (.func f) #[] #[]] I [.blk g 390 (a1u (l)++rest.l).flatten] (fun u r=>u = .tuple #[]∧∃m,r = .blk g 390 (a1u (m)++rest.l).flatten∧Seg l m a b)) (l:List Pkd) (a m b:Nat) (hN:l.length=N) (hW:b-a≤W) (ham:a<m) (hmb:m<b) (hb:b≤l.length) (m1:SrtD l a m) (m2:SrtD l m b) :
    FnX prog 344 #[.slice (some ⟨g,0,none⟩) N cap,.int .i64 ((a:Nat):Int),.int .i64 ((m:Nat):Int),.int .i64 ((b:Nat):Int),.func (.func f) #[] #[]] I [.blk g 390 (a1u (l)++rest.l).flatten] (fun u r=>u = .tuple #[]∧∃m,r = .blk g 390 (a1u (m)++rest.l).flatten∧Seg l m a b):=by
 refine enter func344 call344 rfl ntmps344 rfl fun w0=>?_;refine go 5 ?_;refine o_v rfl (OV.cast (u:=.int .i64 ((m-a:Nat):Int)) (a1j rfl rfl ⟨oM,oM⟩) (congrArg (Value.int .i64) oM)) ?_;refine gC 3 (fun h28 p28=>?_) fun h28 p28=>?_
 ·obtain rfl:m=a+1:=oM;refine go 14 ?_
  refine a0B (a+1) (b) (fun i j=>I)
   (fun i j=>[(0,.slice (some ⟨g,0,none⟩) N cap),(1,.int .i64 ((a:Nat):Int)),(2,.int .i64 ((a+1:Nat):Int)),(3,.int .i64 ((b:Nat):Int)),(4,.func (.func f) #[] #[]),(10,.int .i64 ((i:Nat):Int)),(11,.int .i64 ((j:Nat):Int))])
   (fun i j=>[.blk g 390 (a1u (l)++rest.l).flatten])
   (fun i j=>a+1≤i∧i≤j∧j≤b∧(∀q,a+1≤q→q<i→a0s l q<a0s l a)∧(∀q,j≤q→q<b→a0s l a≤a0s l q))
   (fun i j=>j-i) ⟨oM,oM,oM,fun q _ _=>oM,fun q _ _=>oM⟩ rfl sb rfl ?_
  intro i j ⟨hi1,hij,hjb,hlo,hhi⟩;refine gC 8 (fun h33 p33=>?_) fun h33 p33=>?_
  ·have hh:(i+j) / 2<l.length:=oM;have ha0:a<l.length:=oM;refine go 8 ?_;refine o_v rfl (a2b he he rfl (m:=(i:Int)+(j:Int)) (wrap_u64 _ oM oM)) ?_;refine o_v rfl (a6P rfl (by decide)) ?_;refine o_v rfl (a2b he he rfl (m:=(((i+j) / 2:Nat):Int)) (by rw[IntKind.wrap_i64];omega)) ?_;refine go 5 ?_;refine dG 0 3 ?_;refine a0F 3 rfl rfl (by kernel_rfl) rfl (.refl _) rfl (a0l he rfl rfl rfl ((i+j) / 2) oM oM) ?_;refine a0F 4 rfl rfl (by kernel_rfl) rfl (.refl _) rfl (a1H m0 ((a0p _).append rest.uk) he rfl ((i+j) / 2) oM (a0G hh)) ?_;refine dG 5 2 ?_;refine a0F 7 rfl rfl (by kernel_rfl) rfl (.refl _) rfl (a0l he rfl rfl rfl (a) oM oM) ?_;refine a0F 8 rfl rfl (by kernel_rfl) rfl (.refl _) rfl (a1H m0 ((a0p _).append rest.uk) he rfl (a) oM (a0G ha0)) ?_;refine dH 9 0 ?_;refine cV (hp _ _) ?_;refine dG 10 1 ?_;refine gC 2 (fun h50 p50=>?_) fun h50 p50=>?_
   ·refine go 7 ?_;exact a0o ((i+j) / 2+1) (j) ⟨oM,oM,oM,fun q q1 q2=>by have:=m2.le (p:=q) (q:=(i+j) / 2) q1 oM oM;have:=b5X p50;omega,hhi⟩ oM rfl sb rfl
   ·refine go 6 ?_;exact a0o (i) ((i+j) / 2) ⟨oM,oM,oM,hlo,fun q q1 q2=>by have:=m2.le (p:=(i+j) / 2) (q:=q) oM q1 q2;have:=b5W p50;omega⟩ oM rfl sb rfl
  ·obtain rfl:i=j:=oM;refine go 13 ?_
   refine a0x (α:=Nat) 0 (fun t=>I)
    (fun t=>[(0,.slice (some ⟨g,0,none⟩) N cap),(1,.int .i64 ((a:Nat):Int)),(2,.int .i64 ((a+1:Nat):Int)),(3,.int .i64 ((b:Nat):Int)),(4,.func (.func f) #[] #[]),(10,.int .i64 ((i:Nat):Int)),(13,.int .i64 ((a+t:Nat):Int))])
    (fun t=>[.blk g 390 (a1u (bub l a t)++rest.l).flatten])
    (fun t=>a+t+1≤i)
    (fun t=>i-t) oM rfl sb rfl ?_
   intro t ht;refine go 5 ?_;refine o_v rfl (OV.cast (u:=.int .i64 ((i-1:Nat):Int)) (a1j rfl rfl ⟨oM,oM⟩) (congrArg (Value.int .i64) oM)) ?_;refine gC 3 (fun h58 p58=>?_) fun h58 p58=>?_
   ·have hbl:=b0c l a t;have hk1:a+t<(bub l a t).length:=oM;have hk2:a+t+1<(bub l a t).length:=oM;refine go 4 ?_;refine ds1 ?_;refine dG 0 4 ?_;refine a0F 4 rfl rfl (by kernel_rfl) rfl (.cons _ .slnil) rfl (OV.cast (u:=.int .i64 ((a+t+1:Nat):Int)) (a2u rfl rfl ⟨oM,oM⟩) (congrArg (Value.int .i64) oM)) ?_;refine dG 5 2 ?_;refine a0F 7 rfl rfl (by kernel_rfl) rfl (.cons _ .slnil) rfl (OV.cast (u:=.int .i64 ((a+t+1:Nat):Int)) (a2u rfl rfl ⟨oM,oM⟩) (congrArg (Value.int .i64) oM)) ?_;refine a0F 8 rfl rfl (by kernel_rfl) rfl (.cons _ .slnil) rfl (a0l he rfl rfl rfl (a+t+1) oM oM) ?_;refine dG 10 2 ?_;refine a0F 12 rfl rfl (by kernel_rfl) rfl (.cons _ .slnil) rfl (a0l he rfl rfl rfl (a+t) oM oM) ?_;refine dT2 9 13 ?_ ?_
    ·refine a0q rfl (a1H m0 ((a0p _).append rest.uk) he rfl (a+t+1) oM (a0G hk2)) ?_;refine dH 13 0 ?_;refine a0q rfl (a1H m0 ((a0p _).append rest.uk) he rfl (a+t) oM (a0G hk1)) ?_;refine go 1 ?_;refine a0F 14 rfl rfl (by kernel_rfl) rfl (.cons _ .slnil) rfl (a0l he rfl rfl rfl (a+t) oM oM) ?_;refine dH 15 0 ?_;refine a1U _ (a+t) (by first|exact (a0p _).append rest.uk|exact ((a0p _).append rest.uk).set rfl _) he rfl rfl rfl rfl rfl oM (by simp[a0t];omega) ?_;refine go 1 ?_;refine a0F 16 rfl rfl (by kernel_rfl) rfl (.cons _ .slnil) rfl (a0l he rfl rfl rfl (a+t+1) oM oM) ?_;refine dH 17 0 ?_;refine a1U _ (a+t+1) (by first|exact (a0p _).append rest.uk|exact ((a0p _).append rest.uk).set rfl _) he rfl rfl rfl rfl rfl oM (by simp[a0t];omega) ?_;refine go 6 ?_;refine o_v rfl (OV.cast (u:=.int .i64 ((a+(t+1):Nat):Int)) (a2u rfl rfl ⟨oM,oM⟩) (congrArg (Value.int .i64) oM)) ?_;refine go 3 ?_;exact a0w (t+1) oM oM rfl sb (by rw[bub];first|rw[←a3Y hk1 hk2] | rw[←a3c hk1 hk2 oM])
    ·refine a0q rfl (a1H m0 ((a0p _).append rest.uk) he rfl (a+t) oM (a0G hk1)) ?_;refine dH 9 0 ?_;refine a0q rfl (a1H m0 ((a0p _).append rest.uk) he rfl (a+t+1) oM (a0G hk2)) ?_;refine go 1 ?_;refine a0F 14 rfl rfl (by kernel_rfl) rfl (.cons _ .slnil) rfl (a0l he rfl rfl rfl (a+t) oM oM) ?_;refine dH 15 0 ?_;refine a1U _ (a+t) (by first|exact (a0p _).append rest.uk|exact ((a0p _).append rest.uk).set rfl _) he rfl rfl rfl rfl rfl oM (by simp[a0t];omega) ?_;refine go 1 ?_;refine a0F 16 rfl rfl (by kernel_rfl) rfl (.cons _ .slnil) rfl (a0l he rfl rfl rfl (a+t+1) oM oM) ?_;refine dH 17 0 ?_;refine a1U _ (a+t+1) (by first|exact (a0p _).append rest.uk|exact ((a0p _).append rest.uk).set rfl _) he rfl rfl rfl rfl rfl oM (by simp[a0t];omega) ?_;refine go 6 ?_;refine o_v rfl (OV.cast (u:=.int .i64 ((a+(t+1):Nat):Int)) (a2u rfl rfl ⟨oM,oM⟩) (congrArg (Value.int .i64) oM)) ?_;refine go 3 ?_;exact a0w (t+1) oM oM rfl sb (by rw[bub];first|rw[←a3Y hk1 hk2] | rw[←a3c hk1 hk2 oM])
   ·refine go 8 ?_;exact q_x ⟨rfl,_,rfl,(show i-1-a=t from oM)▸b8n m2 hi1 hjb hb hlo hhi⟩
 ·have hma:a+2≤m:=oM;refine go 7 ?_;refine o_v rfl (OV.cast (u:=.int .i64 ((b-m:Nat):Int)) (a1j rfl rfl ⟨oM,oM⟩) (congrArg (Value.int .i64) oM)) ?_;refine gC 3 (fun h80 p80=>?_) fun h80 p80=>?_
  ·obtain rfl:b=m+1:=oM;refine go 14 ?_
   refine a0B (a) (m) (fun i j=>I)
    (fun i j=>[(0,.slice (some ⟨g,0,none⟩) N cap),(1,.int .i64 ((a:Nat):Int)),(2,.int .i64 ((m:Nat):Int)),(3,.int .i64 ((m+1:Nat):Int)),(4,.func (.func f) #[] #[]),(14,.int .i64 ((i:Nat):Int)),(15,.int .i64 ((j:Nat):Int))])
    (fun i j=>[.blk g 390 (a1u (l)++rest.l).flatten])
    (fun i j=>a≤i∧i≤j∧j≤m∧(∀q,a≤q→q<i→a0s l q≤a0s l m)∧(∀q,j≤q→q<m→a0s l m<a0s l q))
    (fun i j=>j-i) ⟨oM,oM,oM,fun q _ _=>oM,fun q _ _=>oM⟩ rfl sb rfl ?_
   intro i j ⟨hi1,hij,hjb,hlo,hhi⟩;refine gC 8 (fun h85 p85=>?_) fun h85 p85=>?_
   ·have hh:(i+j) / 2<l.length:=oM;have hm0:m<l.length:=oM;refine go 8 ?_;refine o_v rfl (a2b he he rfl (m:=(i:Int)+(j:Int)) (wrap_u64 _ oM oM)) ?_;refine o_v rfl (a6P rfl (by decide)) ?_;refine o_v rfl (a2b he he rfl (m:=(((i+j) / 2:Nat):Int)) (by rw[IntKind.wrap_i64];omega)) ?_;refine go 5 ?_;refine dG 0 3 ?_;refine a0F 3 rfl rfl (by kernel_rfl) rfl (.refl _) rfl (a0l he rfl rfl rfl (m) oM oM) ?_;refine a0F 4 rfl rfl (by kernel_rfl) rfl (.refl _) rfl (a1H m0 ((a0p _).append rest.uk) he rfl (m) oM (a0G hm0)) ?_;refine dG 5 2 ?_;refine a0F 7 rfl rfl (by kernel_rfl) rfl (.refl _) rfl (a0l he rfl rfl rfl ((i+j) / 2) oM oM) ?_;refine a0F 8 rfl rfl (by kernel_rfl) rfl (.refl _) rfl (a1H m0 ((a0p _).append rest.uk) he rfl ((i+j) / 2) oM (a0G hh)) ?_;refine dH 9 0 ?_;refine cV (hp _ _) ?_;refine dG 10 2 ?_;refine gC 2 (fun h103 p103=>?_) fun h103 p103=>?_
    ·refine go 7 ?_;exact a0o ((i+j) / 2+1) (j) ⟨oM,oM,oM,fun q q1 q2=>by have:=m1.le (p:=q) (q:=(i+j) / 2) q1 oM oM;have:=b5W p103;omega,hhi⟩ oM rfl sb rfl
    ·refine go 6 ?_;exact a0o (i) ((i+j) / 2) ⟨oM,oM,oM,hlo,fun q q1 q2=>by have:=m1.le (p:=(i+j) / 2) (q:=q) oM q1 q2;have:=b5X p103;omega⟩ oM rfl sb rfl
   ·obtain rfl:i=j:=oM;refine go 13 ?_
    refine a0x (α:=Nat) 0 (fun t=>I)
     (fun t=>[(0,.slice (some ⟨g,0,none⟩) N cap),(1,.int .i64 ((a:Nat):Int)),(2,.int .i64 ((m:Nat):Int)),(3,.int .i64 ((m+1:Nat):Int)),(4,.func (.func f) #[] #[]),(14,.int .i64 ((i:Nat):Int)),(17,.int .i64 ((m-t:Nat):Int))])
     (fun t=>[.blk g 390 (a1u (bud l m t)++rest.l).flatten])
     (fun t=>t+i≤m)
     (fun t=>m-t) oM rfl ⟨rfl,rfl,rfl,rfl,rfl,rfl,congrArg (fun z:Int=>some (Value.int .i64 z)) oM,trivial⟩ rfl ?_
    intro t ht;refine gC 8 (fun h110 p110=>?_) fun h110 p110=>?_
    ·have hbl:=b0d l m t;have hk1:m-t<(bud l m t).length:=oM;have hk2:m-t-1<(bud l m t).length:=oM;refine go 4 ?_;refine ds1 ?_;refine dG 0 4 ?_;refine a0F 4 rfl rfl (by kernel_rfl) rfl (.cons _ .slnil) rfl (OV.cast (u:=.int .i64 ((m-t-1:Nat):Int)) (a1j rfl rfl ⟨oM,oM⟩) (congrArg (Value.int .i64) oM)) ?_;refine dG 5 2 ?_;refine a0F 7 rfl rfl (by kernel_rfl) rfl (.cons _ .slnil) rfl (OV.cast (u:=.int .i64 ((m-t-1:Nat):Int)) (a1j rfl rfl ⟨oM,oM⟩) (congrArg (Value.int .i64) oM)) ?_;refine a0F 8 rfl rfl (by kernel_rfl) rfl (.cons _ .slnil) rfl (a0l he rfl rfl rfl (m-t-1) oM oM) ?_;refine dG 10 2 ?_;refine a0F 12 rfl rfl (by kernel_rfl) rfl (.cons _ .slnil) rfl (a0l he rfl rfl rfl (m-t) oM oM) ?_;refine dT2 9 13 ?_ ?_
     ·refine a0q rfl (a1H m0 ((a0p _).append rest.uk) he rfl (m-t-1) oM (a0G hk2)) ?_;refine dH 13 0 ?_;refine a0q rfl (a1H m0 ((a0p _).append rest.uk) he rfl (m-t) oM (a0G hk1)) ?_;refine go 1 ?_;refine a0F 14 rfl rfl (by kernel_rfl) rfl (.cons _ .slnil) rfl (a0l he rfl rfl rfl (m-t) oM oM) ?_;refine dH 15 0 ?_;refine a1U _ (m-t) (by first|exact (a0p _).append rest.uk|exact ((a0p _).append rest.uk).set rfl _) he rfl rfl rfl rfl rfl oM (by simp[a0t];omega) ?_;refine go 1 ?_;refine a0F 16 rfl rfl (by kernel_rfl) rfl (.cons _ .slnil) rfl (a0l he rfl rfl rfl (m-t-1) oM oM) ?_;refine dH 17 0 ?_;refine a1U _ (m-t-1) (by first|exact (a0p _).append rest.uk|exact ((a0p _).append rest.uk).set rfl _) he rfl rfl rfl rfl rfl oM (by simp[a0t];omega) ?_;refine go 6 ?_;refine o_v rfl (OV.cast (u:=.int .i64 ((m-(t+1):Nat):Int)) (a1j rfl rfl ⟨oM,oM⟩) (congrArg (Value.int .i64) oM)) ?_;refine go 3 ?_;exact a0w (t+1) oM oM rfl sb (by rw[bud];first|rw[←a3Y hk1 hk2] | rw[←a3c hk1 hk2 oM])
     ·refine a0q rfl (a1H m0 ((a0p _).append rest.uk) he rfl (m-t) oM (a0G hk1)) ?_;refine dH 9 0 ?_;refine a0q rfl (a1H m0 ((a0p _).append rest.uk) he rfl (m-t-1) oM (a0G hk2)) ?_;refine go 1 ?_;refine a0F 14 rfl rfl (by kernel_rfl) rfl (.cons _ .slnil) rfl (a0l he rfl rfl rfl (m-t) oM oM) ?_;refine dH 15 0 ?_;refine a1U _ (m-t) (by first|exact (a0p _).append rest.uk|exact ((a0p _).append rest.uk).set rfl _) he rfl rfl rfl rfl rfl oM (by simp[a0t];omega) ?_;refine go 1 ?_;refine a0F 16 rfl rfl (by kernel_rfl) rfl (.cons _ .slnil) rfl (a0l he rfl rfl rfl (m-t-1) oM oM) ?_;refine dH 17 0 ?_;refine a1U _ (m-t-1) (by first|exact (a0p _).append rest.uk|exact ((a0p _).append rest.uk).set rfl _) he rfl rfl rfl rfl rfl oM (by simp[a0t];omega) ?_;refine go 6 ?_;refine o_v rfl (OV.cast (u:=.int .i64 ((m-(t+1):Nat):Int)) (a1j rfl rfl ⟨oM,oM⟩) (congrArg (Value.int .i64) oM)) ?_;refine go 3 ?_;exact a0w (t+1) oM oM rfl sb (by rw[bud];first|rw[←a3Y hk1 hk2] | rw[←a3c hk1 hk2 oM])
    ·refine go 8 ?_;exact q_x ⟨rfl,_,rfl,(show m-i=t from oM)▸b2f m1 hi1 hjb oM hlo hhi⟩
  ·have hmb2:m+2≤b:=oM;refine go 7 ?_;refine o_v rfl (a2b he he rfl (m:=(a:Int)+(b:Int)) (wrap_u64 _ oM oM)) ?_;refine o_v rfl (a6P rfl (by decide)) ?_;refine o_v rfl (a2b he he rfl (m:=(((a+b) / 2:Nat):Int)) (by rw[IntKind.wrap_i64];omega)) ?_;refine go 7 ?_;refine o_v rfl (OV.cast (u:=.int .i64 ((((a+b) / 2)+m:Nat):Int)) (a2u rfl rfl ⟨oM,oM⟩) (congrArg (Value.int .i64) oM)) ?_;refine go 10 ?_;refine b0e (Ix:=(fun S R=>I)) (Lx:=(fun S R=>[(0,.slice (some ⟨g,0,none⟩) N cap),(1,.int .i64 ((a:Nat):Int)),(2,.int .i64 ((m:Nat):Int)),(3,.int .i64 ((b:Nat):Int)),(4,.func (.func f) #[] #[]),(18,.int .i64 ((((a+b) / 2):Nat):Int)),(19,.int .i64 ((((a+b) / 2)+m:Nat):Int)),(20,.int .i64 ((S:Nat):Int)),(21,.int .i64 ((R:Nat):Int))])) (Hx:=(fun S R=>[.blk g 390 (a1u (l)++rest.l).flatten])) (p:=(fun S R=>(((a+b) / 2)<m∧S=((a+b) / 2)+m-b∧R=((a+b) / 2))∨(m≤((a+b) / 2)∧S=a∧R=m))) ?_ ?_
   ·refine gC 7 (fun h140 p140=>?_) fun h140 p140=>?_
    ·refine go 4 ?_;refine o_v rfl (OV.cast (u:=.int .i64 ((((a+b) / 2)+m-b:Nat):Int)) (a1j rfl rfl ⟨oM,oM⟩) (congrArg (Value.int .i64) oM)) ?_;refine go 8 ?_;exact a3G (((a+b) / 2)+m-b) (((a+b) / 2)) (.inl ⟨oM,rfl,rfl⟩) sb rfl rfl
    ·refine go 11 ?_;exact a3G (a) (m) (.inr ⟨oM,rfl,rfl⟩) sb rfl rfl
   ·intro S R hS;refine go 3 ?_;refine o_v rfl (OV.cast (u:=.int .i64 ((((a+b) / 2)+m-1:Nat):Int)) (a1j rfl rfl ⟨oM,oM⟩) (congrArg (Value.int .i64) oM)) ?_;refine go 5 ?_
    refine a0B (S) (R) (fun s r=>I)
     (fun s r=>[(0,.slice (some ⟨g,0,none⟩) N cap),(1,.int .i64 ((a:Nat):Int)),(2,.int .i64 ((m:Nat):Int)),(3,.int .i64 ((b:Nat):Int)),(4,.func (.func f) #[] #[]),(18,.int .i64 ((((a+b) / 2):Nat):Int)),(19,.int .i64 ((((a+b) / 2)+m:Nat):Int)),(20,.int .i64 ((s:Nat):Int)),(21,.int .i64 ((r:Nat):Int)),(22,.int .i64 ((((a+b) / 2)+m-1:Nat):Int))])
     (fun s r=>[.blk g 390 (a1u (l)++rest.l).flatten])
     (fun s r=>S≤s∧s≤r∧r≤R∧(∀q,S≤q→q<s→a0s l q≤a0s l (((a+b) / 2)+m-1-q))∧(∀q,r≤q→q<R→a0s l (((a+b) / 2)+m-1-q)<a0s l q))
     (fun s r=>r-s) ⟨oM,oM,oM,fun q _ _=>oM,fun q _ _=>oM⟩ rfl sb rfl ?_
    intro s r ⟨hs1,hsr,hrR,hlo,hhi⟩;refine gC 8 (fun h151 p151=>?_) fun h151 p151=>?_
    ·have hh:(s+r) / 2<l.length:=oM;have hh2:((a+b) / 2)+m-1-(s+r) / 2<l.length:=oM;refine go 8 ?_;refine o_v rfl (a2b he he rfl (m:=(s:Int)+(r:Int)) (wrap_u64 _ oM oM)) ?_;refine o_v rfl (a6P rfl (by decide)) ?_;refine o_v rfl (a2b he he rfl (m:=(((s+r) / 2:Nat):Int)) (by rw[IntKind.wrap_i64];omega)) ?_;refine go 5 ?_;refine dG 0 4 ?_;refine a0F 4 rfl rfl (by kernel_rfl) rfl (.refl _) rfl (OV.cast (u:=.int .i64 ((((a+b) / 2)+m-1-(s+r) / 2:Nat):Int)) (a1j rfl rfl ⟨oM,oM⟩) (congrArg (Value.int .i64) oM)) ?_;refine a0F 5 rfl rfl (by kernel_rfl) rfl (.refl _) rfl (a0l he rfl rfl rfl (((a+b) / 2)+m-1-(s+r) / 2) oM oM) ?_;refine a0F 6 rfl rfl (by kernel_rfl) rfl (.refl _) rfl (a1H m0 ((a0p _).append rest.uk) he rfl (((a+b) / 2)+m-1-(s+r) / 2) oM (a0G hh2)) ?_;refine dG 7 2 ?_;refine a0F 9 rfl rfl (by kernel_rfl) rfl (.refl _) rfl (a0l he rfl rfl rfl ((s+r) / 2) oM oM) ?_;refine a0F 10 rfl rfl (by kernel_rfl) rfl (.refl _) rfl (a1H m0 ((a0p _).append rest.uk) he rfl ((s+r) / 2) oM (a0G hh)) ?_;refine dH 11 0 ?_;refine cV (hp _ _) ?_;refine dG 12 2 ?_;refine gC 2 (fun h171 p171=>?_) fun h171 p171=>?_
     ·refine go 7 ?_;exact a0o ((s+r) / 2+1) (r) ⟨oM,oM,oM,c9s m1 m2 ham hmb rfl hS (h:=(s+r) / 2) (r:=r) oM oM hrR (b5W p171),hhi⟩ oM rfl sb rfl
     ·refine go 6 ?_;exact a0o (s) ((s+r) / 2) ⟨oM,oM,oM,hlo,c9r m1 m2 ham hmb rfl hS (h:=(s+r) / 2) (s:=s) hs1 oM oM (b5X p171)⟩ oM rfl sb rfl
    ·obtain rfl:s=r:=oM;obtain⟨hx,hy⟩:=c4j m1 m2 ham hmb rfl hS hs1 hrR hlo hhi;have g0:a≤s:=oM;have g1:s≤m:=oM;have g2:m≤((a+b) / 2+m-s):=oM;have g3:((a+b) / 2+m-s)≤b:=oM;have hc:s+(((a+b) / 2+m-s)-m)=((a+b) / 2):=oM;refine go 9 ?_;refine o_v rfl (OV.cast (u:=.int .i64 ((((a+b) / 2+m-s):Nat):Int)) (a1j rfl rfl ⟨oM,oM⟩) (congrArg (Value.int .i64) oM)) ?_;refine go 4 ?_;refine a7f (α:=List Pkd) (Ix:=(fun k=>I)) (Lx:=(fun k=>[(0,.slice (some ⟨g,0,none⟩) N cap),(1,.int .i64 ((a:Nat):Int)),(2,.int .i64 ((m:Nat):Int)),(3,.int .i64 ((b:Nat):Int)),(4,.func (.func f) #[] #[]),(18,.int .i64 ((((a+b) / 2):Nat):Int)),(20,.int .i64 ((s:Nat):Int)),(24,.int .i64 ((((a+b) / 2+m-s):Nat):Int))])) (Hx:=(fun k=>[.blk g 390 (a1u (k)++rest.l).flatten])) (p:=(fun k=>Rot l k a s m ((a+b) / 2+m-s) b)) ?_ ?_
     ·refine gS 6 181 (fun h181 p181=>?_) fun h181 p181=>?_
      ·refine gC 6 (fun h185 p185=>?_) fun h185 p185=>?_
       ·refine go 7 ?_;refine a0Q (d2c _ l N hN g s m ((a+b) / 2+m-s) f oM oM oM oM) rfl rfl fun v191 s191 q191=>?_;obtain⟨rfl,k,rfl,hkl,hk⟩:=q191;refine go 2 ?_;exact a2A k (Rot.of g1 g2 oM hkl hk hx) sb rfl rfl
       ·refine go 2 ?_;exact a2A l (Rot.id oM g1 g2) sb rfl rfl
      ·refine go 9 ?_;exact a2A l (Rot.id oM g1 g2) sb rfl rfl
     ·intro k hk;refine go 1 ?_;refine a7f (α:=List Pkd) (Ix:=(fun k1=>I)) (Lx:=(fun k1=>[(0,.slice (some ⟨g,0,none⟩) N cap),(1,.int .i64 ((a:Nat):Int)),(2,.int .i64 ((m:Nat):Int)),(3,.int .i64 ((b:Nat):Int)),(4,.func (.func f) #[] #[]),(18,.int .i64 ((((a+b) / 2):Nat):Int)),(20,.int .i64 ((s:Nat):Int)),(24,.int .i64 ((((a+b) / 2+m-s):Nat):Int))])) (Hx:=(fun k1=>[.blk g 390 (a1u (k1)++rest.l).flatten])) (p:=(fun k1=>Seg k k1 a ((a+b) / 2))) ?_ ?_
      ·refine gS 6 195 (fun h195 p195=>?_) fun h195 p195=>?_
       ·refine gC 6 (fun h199 p199=>?_) fun h199 p199=>?_
        ·refine go 7 ?_;refine a0Q (ih k a s ((a+b) / 2) (hk.len.trans hN) oM oM oM (by have:=hk.len;omega) (hk.p1 m1 g1) ((hk.p2 m2 g1 g2 g3).sub (Nat.le_refl _) oM)) rfl rfl fun v205 s205 q205=>?_;obtain⟨rfl,k1,rfl,hk1⟩:=q205;refine go 2 ?_;exact a2A k1 hk1 sb rfl rfl
        ·refine go 2 ?_;exact a2A k (Seg.refl' (hk.left m1 m2 g1 g2 g3 hc oM g0)) sb rfl rfl
       ·refine go 9 ?_;exact a2A k (Seg.refl' (hk.left m1 m2 g1 g2 g3 hc oM g0)) sb rfl rfl
      ·intro k1 hk1;have hl1:k1.length=N:=hk1.len.trans (hk.len.trans hN);refine gS 6 209 (fun h209 p209=>?_) fun h209 p209=>?_
       ·refine gC 6 (fun h213 p213=>?_) fun h213 p213=>?_
        ·refine go 7 ?_;refine a0Q (ih k1 ((a+b) / 2) ((a+b) / 2+m-s) b hl1 oM oM oM oM (hk1.keepD (Nat.le_refl _) ((hk.p3 m1 g0 g1 g2).sub oM (Nat.le_refl _))) (hk1.keepD oM (hk.p4 m2 g1 g2))) rfl rfl fun v219 s219 q219=>?_;obtain⟨rfl,k2,rfl,hk2⟩:=q219;refine go 2 ?_;exact q_x ⟨rfl,k2,rfl,hk.done m1 m2 g0 g1 g2 g3 hb hc hx hy hk1 hk2⟩
        ·refine go 2 ?_;exact q_x ⟨rfl,k1,rfl,hk.done m1 m2 g0 g1 g2 g3 hb hc hx hy hk1 (Seg.refl' (hk1.keepD (Nat.le_refl _) (hk.right m1 m2 g0 g1 g2 hc oM g3)))⟩
       ·refine go 9 ?_;exact q_x ⟨rfl,k1,rfl,hk.done m1 m2 g0 g1 g2 g3 hb hc hx hy hk1 (Seg.refl' (hk1.keepD (Nat.le_refl _) (hk.right m1 m2 g0 g1 g2 hc oM g3)))⟩
theorem b5y (I:IMap) {rest:Rst 15} {cap:Nat} (N g:Nat) (f:FuncId) (hp:∀x y:Pkd,FnV prog f #[.agg (Day.ch x).toArray,.agg (Day.ch y).toArray] I (.int .i64 ((Day.day x-Day.day y)))) (hN0:N≤1000000) (W:Nat):∀(l:List Pkd) (a m b:Nat),l.length=N→b-a≤W→a<m→m<b→b≤l.length→SrtD l a m→SrtD l m b→FnX prog 344 #[.slice (some ⟨g,0,none⟩) N cap,.int .i64 ((a:Nat):Int),.int .i64 ((m:Nat):Int),.int .i64 ((b:Nat):Int),.func (.func f) #[] #[]] I [.blk g 390 (a1u (l)++rest.l).flatten] (fun u r=>u = .tuple #[]∧∃m,r = .blk g 390 (a1u (m)++rest.l).flatten∧Seg l m a b):=by
 induction W using Nat.strongRecOn with
 |_ W ih=>exact fun l a m b hN hW ham hmb hb m1 m2=>c0M I N g f hp hN0 W (fun l' a' m' b' h1 h2 h3 h4 h5 h6 h7=>ih (b'-a') h2 l' a' m' b' h1 (Nat.le_refl _) h3 h4 h5 h6 h7) l a m b hN hW ham hmb hb m1 m2
theorem d2z (I:IMap) {rest:Rst 15} {cap:Nat} (N g:Nat) (f:FuncId) (hp:∀x y:Pkd,FnV prog f #[.agg (Day.ch x).toArray,.agg (Day.ch y).toArray] I (.int .i64 ((Day.day x-Day.day y)))) (hN0:N≤1000000) (l:List Pkd) (hN:l.length=N) :
    FnX prog 321 #[.slice (some ⟨g,0,none⟩) N cap,.int .i64 ((N:Nat):Int),.func (.func f) #[] #[]] I [.blk g 390 (a1u (l)++rest.l).flatten] (fun u r=>u = .tuple #[]∧∃m,r = .blk g 390 (a1u (m)++rest.l).flatten∧Stb l m∧SrtD m 0 N):=by
 refine enter func321 call321 rfl ntmps321 rfl fun w0=>?_;refine go 14 ?_
 refine a0B (0) (l) (fun a m=>I)
  (fun a m=>[(0,.slice (some ⟨g,0,none⟩) N cap),(1,.int .i64 ((N:Nat):Int)),(2,.func (.func f) #[] #[]),(6,.int .i64 20),(7,.int .i64 ((a:Nat):Int)),(8,.int .i64 ((a+20:Nat):Int))])
  (fun a m=>[.blk g 390 (a1u (m)++rest.l).flatten])
  (fun a m=>a≤N∧Stb l m∧Pre m 20 a)
  (fun a m=>N-a) ⟨Nat.zero_le _,Stb.refl l,.zero⟩ rfl sb rfl ?_
 intro a m ⟨ha,hs,hP⟩;have hmN:m.length=N:=hs.1.symm.trans hN;refine gC 8 (fun h13 p13=>?_) fun h13 p13=>?_
 ·refine go 10 ?_;refine a0Q (b8a _ m N hmN g a (a+20) f hp oM oM oM) rfl rfl fun v18 s18 q18=>?_;obtain⟨rfl,k18,rfl,h18⟩:=q18;refine go 11 ?_;refine o_v rfl (OV.cast (u:=.int .i64 ((a+20+20:Nat):Int)) (a2u rfl rfl ⟨oM,oM⟩) (congrArg (Value.int .i64) oM)) ?_;refine go 4 ?_;exact a0o (a+20) (k18) ⟨oM,hs.trans h18.stb,hP.put h18⟩ oM rfl sb rfl
 ·refine go 12 ?_;refine a0Q (b8a _ m N hmN g a N f hp ha oM oM) rfl rfl fun v27 s27 q27=>?_;obtain⟨rfl,m3,rfl,h27⟩:=q27;refine go 3 ?_
  refine a0B (20) (m3) (fun q m=>I)
   (fun q m=>[(0,.slice (some ⟨g,0,none⟩) N cap),(1,.int .i64 ((N:Nat):Int)),(2,.func (.func f) #[] #[]),(6,.int .i64 ((q:Nat):Int))])
   (fun q m=>[.blk g 390 (a1u (m)++rest.l).flatten])
   (fun q m=>1≤q∧Stb l m∧Blk m q N 0)
   (fun q m=>N-q) ⟨oM,hs.trans h27.stb,hP.last h27 ha oM⟩ rfl sb rfl ?_
  intro q m ⟨hq,hs,hB⟩;have hmN:m.length=N:=hs.1.symm.trans hN;refine gC 8 (fun h30 p30=>?_) fun h30 p30=>?_
  ·refine go 6 ?_;refine o_v rfl (OV.cast (u:=.int .i64 ((2 * q:Nat):Int)) (b5E rfl rfl ⟨oM,oM⟩) (congrArg (Value.int .i64) oM)) ?_;refine go 6 ?_
   refine a0B (0) (m) (fun a k=>I)
    (fun a k=>[(0,.slice (some ⟨g,0,none⟩) N cap),(1,.int .i64 ((N:Nat):Int)),(2,.func (.func f) #[] #[]),(6,.int .i64 ((q:Nat):Int)),(7,.int .i64 ((a:Nat):Int)),(8,.int .i64 ((a+2 * q:Nat):Int))])
    (fun a k=>[.blk g 390 (a1u (k)++rest.l).flatten])
    (fun a k=>a≤N∧Stb l k∧Pre k (2 * q) a∧Blk k q N a)
    (fun a k=>N-a) ⟨Nat.zero_le _,hs,.zero,hB⟩ rfl ⟨rfl,rfl,rfl,rfl,rfl,congrArg (fun z:Int=>some (Value.int .i64 z)) oM,trivial⟩ rfl ?_
   intro a k ⟨ha,hkS,hkP,hkB⟩;have hkN:k.length=N:=hkS.1.symm.trans hN;refine gC 8 (fun h35 p35=>?_) fun h35 p35=>?_
   ·obtain⟨t1,t2,t3⟩:=hkB.two oM hq;refine go 9 ?_;refine o_v rfl (OV.cast (u:=.int .i64 ((a+q:Nat):Int)) (a2u rfl rfl ⟨oM,oM⟩) (congrArg (Value.int .i64) oM)) ?_;refine go 3 ?_;refine a0Q (b5y _ N g f hp hN0 _ k a (a+q) (a+2 * q) hkN (Nat.le_refl _) oM oM oM t1 t2) rfl rfl fun v43 s43 q43=>?_;obtain⟨rfl,k43,rfl,h43⟩:=q43;refine go 11 ?_;refine o_v rfl (OV.cast (u:=.int .i64 ((2 * q:Nat):Int)) (b5E rfl rfl ⟨oM,oM⟩) (congrArg (Value.int .i64) oM)) ?_;refine o_v rfl (OV.cast (u:=.int .i64 ((a+2 * q+2 * q:Nat):Int)) (a2u rfl rfl ⟨oM,oM⟩) (congrArg (Value.int .i64) oM)) ?_;refine go 4 ?_;exact a0o (a+2 * q) (k43) ⟨oM,hkS.trans h43.stb,hkP.put h43,t3.same fun z z1 z2=>h43.out z (.inr oM)⟩ oM rfl sb rfl
   ·refine go 6 ?_;refine a7f (α:=List Pkd) (Ix:=(fun k=>I)) (Lx:=(fun k=>[(0,.slice (some ⟨g,0,none⟩) N cap),(1,.int .i64 ((N:Nat):Int)),(2,.func (.func f) #[] #[]),(6,.int .i64 ((q:Nat):Int))])) (Hx:=(fun k=>[.blk g 390 (a1u (k)++rest.l).flatten])) (p:=(fun k=>Stb l k∧Blk k (2 * q) N 0)) ?_ ?_
    ·refine go 4 ?_;refine o_v rfl (OV.cast (u:=.int .i64 ((a+q:Nat):Int)) (a2u rfl rfl ⟨oM,oM⟩) (congrArg (Value.int .i64) oM)) ?_;refine gC 10 (fun h54 p54=>?_) fun h54 p54=>?_
     ·obtain⟨t1,t2⟩:=hkB.one oM;refine go 7 ?_;refine a0Q (b5y _ N g f hp hN0 _ k a (a+q) N hkN (Nat.le_refl _) oM oM oM t1 (t2 oM)) rfl rfl fun v60 s60 q60=>?_;obtain⟨rfl,k60,rfl,h60⟩:=q60;refine go 2 ?_;exact a2A k60 ⟨hkS.trans h60.stb,hkP.last h60 ha oM⟩ sb rfl rfl
     ·refine go 2 ?_;exact a2A k ⟨hkS,hkP.last (Seg.refl' (hkB.all oM)) ha oM⟩ sb rfl rfl
    ·intro k ⟨hkS,hkB⟩;refine go 2 ?_;refine o_v rfl (OV.cast (u:=.int .i64 ((2 * q:Nat):Int)) (b5E rfl rfl ⟨oM,oM⟩) (congrArg (Value.int .i64) oM)) ?_;refine go 4 ?_;exact a0o (2 * q) (k) ⟨oM,hkS,hkB⟩ oM rfl sb rfl
  ·refine go 5 ?_;exact q_x ⟨rfl,m,rfl,hs,hB.all oM⟩
theorem b7a (I:IMap) {rest:Rst 15} {cap:Nat} (N g:Nat) (f:FuncId) (hp:∀x y:Pkd,FnV prog f #[.agg (Day.ch x).toArray,.agg (Day.ch y).toArray] I (.int .i64 ((Day.day x-Day.day y)))) (hN0:N≤1000000) (l:List Pkd) (hN:l.length=N) :
    FnX prog 279 #[.slice (some ⟨g,0,none⟩) N cap,.func (.func f) #[] #[]] I [.blk g 390 (a1u (l)++rest.l).flatten] (fun u r=>u = .tuple #[]∧∃m,r = .blk g 390 (a1u (m)++rest.l).flatten∧Stb l m∧SrtD m 0 N):=by
 refine enter func279 call279 rfl ntmps279 rfl fun w0=>?_;refine go 6 ?_;refine a0Q (d2z _ N g f hp hN0 l hN) rfl rfl fun v8 s8 q8=>?_;obtain⟨rfl,m8,rfl,h8⟩:=q8;refine go 2 ?_;exact q_x ⟨rfl,m8,rfl,h8⟩
theorem b9U (I:IMap) (f:FuncId) :
    FnV prog 343 #[.slice none 0 0,.int .i64 0,.int .i64 0,.func (.func f) #[] #[]] I (.tuple #[]):=by
 refine enter func343 call343 rfl ntmps343 rfl fun w0=>?_;refine go 3 ?_;refine o_v rfl (OV.cast (u:=.int .i64 1) (a2u rfl rfl ⟨oM,oM⟩) rfl) ?_;refine go 4 ?_
 refine a0x (α:=Nat) 0 (fun i=>I)
  (fun i=>[(0,.slice none 0 0),(1,.int .i64 0),(2,.int .i64 0),(3,.func (.func f) #[] #[]),(8,.int .i64 1)])
  (fun i=>[])
  (fun i=>True)
  (fun i=>0) trivial rfl sb rfl ?_
 intro i _;refine gC 8 (fun h14 p14=>?_) fun h14 p14=>?_
 ·exact absurd p14 (by decide)
 ·refine go 5 ?_;exact q_v rfl
theorem c4n (I:IMap) (f:FuncId) :
    FnV prog 321 #[.slice none 0 0,.int .i64 0,.func (.func f) #[] #[]] I (.tuple #[]):=by
 refine enter func321 call321 rfl ntmps321 rfl fun w0=>?_;refine go 14 ?_
 refine a0x (α:=Nat) 0 (fun i=>I)
  (fun i=>[(0,.slice none 0 0),(1,.int .i64 0),(2,.func (.func f) #[] #[]),(6,.int .i64 20),(7,.int .i64 0),(8,.int .i64 20)])
  (fun i=>[])
  (fun i=>True)
  (fun i=>0) trivial rfl sb rfl ?_
 intro i _;refine gC 8 (fun h13 p13=>?_) fun h13 p13=>?_
 ·exact absurd p13 (by decide)
 ·refine go 12 ?_;refine cV (b9U _ f) ?_;refine go 3 ?_
  refine a0x (α:=Nat) 0 (fun i=>I)
   (fun i=>[(0,.slice none 0 0),(1,.int .i64 0),(2,.func (.func f) #[] #[]),(6,.int .i64 20)])
   (fun i=>[])
   (fun i=>True)
   (fun i=>0) trivial rfl sb rfl ?_
  intro i _;refine gC 8 (fun h30 p30=>?_) fun h30 p30=>?_
  ·exact absurd p30 (by decide)
  ·refine go 5 ?_;exact q_v rfl
theorem d2s (I:IMap) (f:FuncId) :
    FnV prog 279 #[.slice none 0 0,.func (.func f) #[] #[]] I (.tuple #[]):=by
 refine enter func279 call279 rfl ntmps279 rfl fun w0=>?_;refine go 6 ?_;refine cV (c4n _ f) ?_;refine go 2 ?_;exact q_v rfl
theorem d5G (I:IMap) (v:Value) (l:List Pkd) (hN0:l.length≤1000000) (f:FuncId) (hp:∀x y:Pkd,FnV prog f #[.agg (Day.ch x).toArray,.agg (Day.ch y).toArray] I (.int .i64 (Day.day x-Day.day y))) :
  FnX prog 279 #[v,.func (.func f) #[] #[]] I [.row v 390 15 l.length (a1u l).flatten] (fun u r=>u = .tuple #[]∧r = .row v 390 15 l.length (a1u (a1N l)).flatten):=
 FnX.of_rowV (args:=fun v=>[v,.func (.func f) #[] #[]]) (a0p l) (a0t l)
  (fun h0 hv=>by
   obtain rfl:=List.eq_nil_of_length_eq_zero h0;subst hv
   exact FnX.of_V (d2s I f))
  (fun g cap rest hv hR hc hl=>by
   subst hv;refine FnX.back (yss:=a1u (a1N l)) (a0p _) hR (by rw[a0t,a4B]) hc hl ?_;refine FnH.mono (b7a I (rest:=⟨rest,hR⟩) (cap:=cap) l.length g f hp hN0 l rfl) fun u I' H' hI h=>?_
   obtain⟨h1,r',h2,h3,m,h4,h5,h6⟩:=h;have hml:m.length=l.length:=h5.1.symm;obtain rfl:=b8U h5 (SrtD.pw (by rw[hml];exact h6))
   exact⟨h1,r',h2,⟨h3,rfl⟩,h4⟩)
theorem d1G (I:IMap) (x y:Pkd) :
    FnV prog 280 #[.agg (Day.ch x).toArray,.agg (Day.ch y).toArray] I (.int .i64 (Day.day x-Day.day y)):=by
 refine enter func280 call280 rfl ntmps280 rfl fun w0=>?_
 show SX _ _ _ (a9V [.agg x.cells.toArray,.agg y.cells.toArray] 0) _ _
 refine go 4 fun g2=>?_
 refine go 2 fun g3=>?_
 refine go 11 ?_;refine o_v rfl (a1j rfl rfl ⟨by have:=x.lo;have:=x.hi;have:=y.lo;have:=y.hi;omega,by have:=x.lo;have:=x.hi;have:=y.lo;have:=y.hi;omega⟩) ?_;refine go 5 ?_;exact q_v rfl
theorem b9O (I:IMap) (vc:Value) (c:List Kind) (hvc:RdS I vc c) (hsc:SmC c) (g1:Nat) (c1:ICells I g1 0 [vc]) (g2:Nat) (v:Value) (st:List Part) (hv:RdS I v st) (hsf:SmF st) (e:Evt) (hse:SmE e) :
    FnG prog 281 #[.agg e.cells.toArray,.pointer (some ⟨g1,0,none⟩),.pointer (some ⟨g2,0,none⟩)] I (.blk g2 62 [v]) (fun u J r=>u = .int .i64 (a0j c st e).2∧∃w,r = .blk g2 62 [w]∧RdS J w (a0j c st e).1):=by
 refine enter func281 call281 rfl ntmps281 rfl fun w0=>?_;refine go 4 fun g3=>?_
 refine go 9 ?_;refine a0m (b6i _ vc c hvc hsc v st hv hsf e hse) rfl rfl fun v9 I9 j9 q9=>?_;obtain⟨w9,rfl,hw9⟩:=q9;refine go 4 ?_;refine a0b ?_;refine a0Y _ he rfl rfl rfl rfl rfl (by simp[hw9.one]) ?_;refine go 11 ?_;refine a0b ?_;refine a0a ?_;exact q_g ⟨rfl,w9,rfl,hw9⟩
theorem b7U (I:IMap) (vc:Value) (c:List Kind) (hvc:RdS I vc c) (hsc:SmC c) (v:Value) (l:List Rep) (hv:RdS I v l) (hl:l.length≤1000000) (hsl:∀r∈l,∀e∈r.options,SmE e) (hgd:∀r∈l,a0g r=true) (w:Value) (ch:List Int) (hw:RdS I w ch) (hlc:ch.length=l.length) (day:Int) :
    FnI prog 217 #[.agg #[vc],v,w,.int .i64 day] I (fun u J=>u = .tuple #[.int .i64 (a5w c l ch day).1,.int .i64 (a5w c l ch day).2]):=by
 obtain⟨A,c0,rfl,hA,hc,hm⟩:=hv;obtain⟨B,c1,rfl,hB,hc1,hm1⟩:=hw;refine enter func217 call217 rfl ntmps217 rfl fun w0=>?_;refine go 4 fun g4=>?_
 refine go 6 ?_;refine a0E 390 15 ?_;refine go 12 ?_
 refine a3A ((0:Nat)) (_) ([]) ([]) (fun i v xs out=>I)
  (fun i v xs out=>[(4,.pointer (some ⟨g4,0,none⟩)),(2,.slice B ch.length c1),(3,.int .i64 day),(10,v),(19,.slice A l.length c0),(20,.int .i64 ((l.length:Nat):Int)),(21,.int .i64 ((i:Nat):Int))])
  (fun i v xs out=>[.row v 390 15 out.length xs,.blk g4 24 [vc]])
  (fun i v xs out=>i≤l.length∧a3j day l ch i=out∧Flat I xs out)
  (fun i v xs out=>l.length-i) ⟨Nat.zero_le _,rfl,.nil⟩ rfl sb rfl ?_
 intro i v xs out ⟨hi,hw,hF⟩;have hol:out.length≤i:=by rw[←hw];exact c7i _ _ _ _
 refine gC 6 (fun h22 p22=>?_) fun h22 p22=>?_
 ·have hlt:i<l.length:=oM;have hlt2:i<ch.length:=oM;refine go 7 ?_;obtain⟨b24,o24,w24,e24,c24,r24⟩:=RdA.at_ hA (i:=i) hlt;obtain⟨q24,rfl,S24,d24,rfl,hS24,hd24,hm24⟩:=r24;refine go 4 fun g12=>?_
  refine go 9 ?_;obtain⟨b28,o28,w28,e28,c28,r28⟩:=RdA.at_ hB (i:=i) hlt2;obtain rfl:=r28;refine o_v rfl (a0l he rfl rfl e28 (i) oM hlt2) ?_;refine gS 9 32 (fun h32 p32=>?_) fun h32 p32=>?_
  ·refine gS 7 39 (fun h39 p39=>?_) fun h39 p39=>?_
   ·have hk:ch[i].toNat<l[i].options.length:=oM;have hday:=c0R (a5p (hgd _ (List.getElem_mem hlt)) _ (List.getElem_mem hk));refine go 3 ?_;obtain⟨b43,o43,w43,e43,c43,r43⟩:=RdA.at_ hS24 (i:=ch[i].toNat) hk;obtain rfl:=r43;refine a0z (a0n rfl rfl h39 (a0q rfl (a0l he rfl rfl e43 (ch[i].toNat) oM hk) ?_));refine gC 7 (fun h48 p48=>?_) fun h48 p48=>?_
    ·refine go 5 ?_;obtain⟨b53,o53,w53,e53,c53,r53⟩:=RdA.at_ hS24 (i:=ch[i].toNat) hk;obtain rfl:=r53;refine o_v rfl (a0l he rfl rfl e53 (ch[i].toNat) oM hk) ?_;refine go 5 fun v57=>?_
     refine go 1 ?_;refine a0d ?_;refine a0O he he rfl rfl rfl rfl rfl oM oM rfl fun v58=>?_;refine go 9 ?_;refine a0b ?_;refine a0a ?_;refine a0b ?_;refine a0a ?_;exact a1G (i+1) (_) (_) (out++[⟨l[i].options[ch[i].toNat],i,hday.1,hday.2⟩]) ⟨oM,d4R hlt hlt2 hw p32 hk p48 hday,hF.append (.one rfl)⟩ oM rfl sb (by first|rfl|(simp only[List.length_append,List.length_singleton];rfl)|simp only[List.length_append,List.length_singleton])
    ·refine go 8 ?_;refine a0a ?_;exact a1G (i+1) (_) (_) (out) ⟨oM,d1H hlt hlt2 hw hk p48,hF⟩ oM rfl sb (by first|rfl|(simp only[List.length_append,List.length_singleton];rfl)|simp only[List.length_append,List.length_singleton])
   ·refine go 20 ?_;refine a0a ?_;exact a1G (i+1) (_) (_) (out) ⟨oM,d4P hlt hlt2 hw p39,hF⟩ oM rfl sb (by first|rfl|(simp only[List.length_append,List.length_singleton];rfl)|simp only[List.length_append,List.length_singleton])
  ·refine go 27 ?_;refine a0a ?_;exact a1G (i+1) (_) (_) (out) ⟨oM,d4Q hlt hlt2 hw p32,hF⟩ oM rfl sb (by first|rfl|(simp only[List.length_append,List.length_singleton];rfl)|simp only[List.length_append,List.length_singleton])
 ·have e:i=l.length:=oM;subst e;refine go 9 ?_;obtain⟨xss,rfl,hx⟩:=FlatC.of hF;obtain rfl:=c5S hx;refine a0Q (d5G _ v out oM 280 (fun x y=>d1G _ x y)) rfl rfl fun v61 s61 q61=>?_;obtain⟨rfl,rfl⟩:=q61;have hso:=a4B out;refine a0i (l:=a1N out) rfl (by rw[a4B]) ((b9H _).flat) fun I61 j61 R61=>?_;have hvc:=hvc.le j61;refine go 6 fun g14=>?_
  refine go 4 ?_;obtain⟨A6,c6,rfl,hA6,_,_⟩:=R61;refine a0b ?_;refine a0A fun Ig4 jg4 cg4=>?_;have hvc:=hvc.le jg4;have hA6:=hA6.le jg4;refine go 13 ?_
  refine a3A (0) ([]) (.slice none 0 0) (Ig4) (fun i st v14 J=>J)
   (fun i st v14 J=>[(15,.func (.func 281) #[] #[.pointer (some ⟨g4,0,none⟩),.pointer (some ⟨g14,0,none⟩)]),(63,.slice A6 (a1N out).length c6),(64,.int .i64 (((a1N out).length:Nat):Int)),(65,.int .i64 ((i:Nat):Int))])
   (fun i st v14 J=>[.blk g14 62 [v14]])
   (fun i st v14 J=>i≤(a1N out).length∧ILe Ig4 J∧RdS J v14 st∧SmF st∧a2P c [] (a1N out)=a2P c st ((a1N out).drop i))
   (fun i st v14 J=>(a1N out).length-i) ⟨Nat.zero_le _,ILe.refl _,RdS.nil',SmF.nil,rfl⟩ rfl sb rfl ?_
  intro i st v14 J ⟨hi,hJ,hv14,hsf,hgo⟩;have hvc:=hvc.le hJ;have hA6:=hA6.le hJ;have cg4:=cg4.le hJ;refine gC 6 (fun h66 p66=>?_) fun h66 p66=>?_
  ·have hlt:i<(a1N out).length:=oM
   have hse:SmE (a1N out)[i].e:=by
     obtain⟨r,hr,he⟩:=c7j (day:=day) (l:=l) (ch:=ch) (n:=l.length) (p:=(a1N out)[i]) (by rw[hw];exact a7X.1 (List.getElem_mem hlt));exact hsl r hr _ he
   refine go 6 ?_;obtain⟨b67,o67,w67,e67,c67,r67⟩:=RdA.at_ hA6 (i:=i) hlt;obtain rfl:=r67;refine go 4 fun g17=>?_
   refine go 8 ?_;refine o_v rfl (a1R ((a1N out)[i].e.cells) m0 he rfl rfl rfl) ?_;refine go 1 ?_;refine a0b ?_;refine a1m (b9O _ vc c hvc hsc g4 cg4 g14 v14 st hv14 hsf (a1N out)[i].e hse) rfl rfl fun v72 I72 s72 j72 q72=>?_;obtain⟨rfl,w72,rfl,hw72⟩:=q72;refine gC 9 (fun h74 p74=>?_) fun h74 p74=>?_
   ·have hok:¬(a0j c st (a1N out)[i].e).2=0:=by simpa using p74
    refine go 16 ?_;exact q_i (by simp only[a5w,hw,hgo,b0w hlt,if_neg hok])
   ·have hok:(a0j c st (a1N out)[i].e).2=0:=by simpa using p74
    refine go 8 ?_;refine a0b ?_;refine a0a ?_;exact a1G (i+1) (_) (_) (I72) ⟨oM,hJ.trans j72,hw72,a9T hsf hse,by rw[hgo,b0w hlt,if_pos hok]⟩ oM rfl sb rfl
  ·refine go 13 ?_;exact q_i (by simp only[a5w,hw,hgo,List.drop_eq_nil_of_le (show (a1N out).length≤i from oM)];rfl)
theorem d0N (I:IMap) (vc:Value) (c:List Kind) (hvc:RdS I vc c) (hsc:SmC c) (v:Value) (l:List Rep) (hv:RdS I v l) (hl:l.length≤1000000) (hsl:∀r∈l,∀e∈r.options,SmE e) (w:Value) (ch:List Int) (hw:RdS I w ch) :
    FnI prog 140 #[.agg #[vc],v,w] I (fun u J=>u = .tuple #[.int .i64 (b0q c l ch).1,.int .i64 (b0q c l ch).2]):=by
 refine enter func140 call140 rfl ntmps140 rfl fun w0=>?_;refine go 4 fun g3=>?_
 refine go 11 ?_;refine cV (c2v _ vc c hvc hsc _ l hv hsl _ ch hw 0) ?_;refine gC 3 (fun h12 p12=>?_) fun h12 p12=>?_
 ·refine go 9 ?_;exact q_i (by rw[b0q,if_pos (by simpa using h12)])
 ·obtain⟨hlc,hgd⟩:=a3o (c:=c) (l:=l) (ch:=ch) (n:=0) (by simpa using h12);refine go 8 ?_;refine a0m (b7U _ vc c hvc hsc _ l hv hl hsl hgd _ ch hw hlc 40001) rfl rfl fun v16 I16 j16 q16=>?_;obtain rfl:=q16;refine go 8 ?_;exact q_i (by rw[b0q,if_neg (by simp[show a1L c l ch 0=true by simpa using h12])];rfl)
theorem d8q (I:IMap) (vc:Value) (c:List Kind) (hvc:RdS I vc c) (hsc:SmC c) (v:Value) (l:List Rep) (hv:RdS I v l) (hl:l.length≤1000000) (hsl:∀r∈l,∀e∈r.options,SmE e) (w:Value) (ch:List Int) (hw:RdS I w ch) :
    FnI prog 64 #[.agg #[vc],v,w] I (fun u J=>u = .bool (isF c l ch)):=by
 refine enter func64 call64 rfl ntmps64 rfl fun w0=>?_;refine go 4 fun g3=>?_
 refine go 9 ?_;refine a0m (d0N _ vc c hvc hsc _ l hv hl hsl _ ch hw) rfl rfl fun v13 I13 j13 q13=>?_;obtain rfl:=q13;refine go 16 ?_;exact q_i rfl
theorem c2u (I:IMap) (vc:Value) (c:List Kind) (hvc:RdS I vc c) (hsc:SmC c) (v:Value) (l:List Rep) (hv:RdS I v l) (hl:l.length≤1000000) (hsl:∀r∈l,∀e∈r.options,SmE e) (w:Value) (ch:List Int) (hw:RdS I w ch) :
    FnI prog 194 #[.agg #[vc],v,w] I (fun u J=>u = .bool (a1B c l ch)):=by
 have hv0:=hv;have hw0:=hw;obtain⟨A,c0,rfl,_,_,_⟩:=hv0;obtain⟨B,c1,rfl,_,_,_⟩:=hw0;refine enter func194 call194 rfl ntmps194 rfl fun w0=>?_;refine go 4 fun g3=>?_
 refine go 10 ?_;refine cV (c2v _ vc c hvc hsc _ l hv hsl _ ch hw (-1)) ?_;refine gC 3 (fun h15 p15=>?_) fun h15 p15=>?_
 ·refine go 8 ?_;exact q_i (by rw[a1B,if_pos (by simpa using h15)])
 ·obtain⟨hlc,hgd⟩:=a3o (c:=c) (l:=l) (ch:=ch) (n:=(-1)) (by simpa using h15);refine go 6 fun g7=>?_
  refine go 10 ?_;refine a0m (d4l _ A B _ c0 _ c1) rfl rfl fun v18 I18 j18 q18=>?_;have hvc:=hvc.le j18;have hv:=hv.le j18;have hw:=hw.le j18;obtain⟨g2,g5,rfl,c2,c3⟩:=q18;refine go 3 ?_;refine b0f (σ:=Int) (ps:=[19]) 40001 (fun m=>[.blk g7 3 [ci m]]) (fun pre I m=>m=a5I pre) (fun pre I m cd=>False) rfl call310 (d3W _ _ l hv _ ch hw hlc g2 g5 c2 c3) (fun I vs x h=>by rw[h];rfl) rfl (fun pre I I' s hI h=>h) (fun _ _ _ _ _ _ h=>h) (rfl) rfl ?_ ?_ ?_
  ·rintro r E1 pre x vs I1 m hI1 rfl rfl hpf;refine c4t ?_;refine go 3 ?_;refine b1b ?_;refine go 4 ?_;refine o_v rfl (a8h rfl rfl) ?_;refine go 1 ?_;refine a0d ?_;refine go 3 ?_;refine a0d ?_;refine a0d ?_;exact b5j (_) (hI1) ((by rw[c0b])) rfl
  ·rintro D pre I1 m hI1 hfull rfl;refine b7g ?_;refine go 9 ?_;refine a0m (b7U _ vc c (hvc.le hI1) hsc _ l (hv.le hI1) hl hsl hgd _ ch (hw.le hI1) hlc (a5I pre)) rfl rfl fun v28 I28 j28 q28=>?_;obtain rfl:=q28;refine go 15 ?_;refine b1a ?_;refine go 1 ?_;exact q_i (by rw[a1B,if_neg (by simp[show a1L c l ch (-1)=true by simpa using h15]),hfull])
  ·rintro D pre I1 m cd hI1 hpart h;exact h.elim
end Go.Proofs.YtgmkjpafapgccaaGreat
namespace Go.Proofs.YtgmkjpafapgccaaGreat
open Go Go.Sx Tryz
set_option linter.all false
set_option maxRecDepth 20000
set_option maxHeartbeats 4000000
theorem c0B (I:IMap) (r:Rep) (S:Option Addr) (d:Nat) (hr:RdS I (.slice S r.options.length d) r.options) (hs:∀e∈r.options,SmE e) :
    FnV prog 184 #[.agg (r.cells (.slice S r.options.length d)).toArray] I (.bool (a0g r)):=by
 have hSA:RdA I S r.options:=(by obtain⟨_,_,e,h,_⟩:=hr;cases e;exact h);have hl4:d≤9223372036854775807:=(by obtain⟨_,_,e,h,h1,h2⟩:=hr;cases e;exact h2);have hl5:=hr.lenLe;refine enter func184 call184 rfl ntmps184 rfl fun w0=>?_;refine go 4 fun g1=>?_
 refine go 5 ?_;refine a1V (I':=I) (L':=[(1,.pointer (some ⟨g1,0,none⟩)),(14,.bool (decide (((r.options.length:Nat):Int)<1)||decide ((4:Int)<(r.options.length:Nat))))]) (H':=[.blk g1 109 (r.cells (.slice S r.options.length d))]) ?_ ?_
 ·refine gS 6 9 (fun h9 p9=>?_) fun h9 p9=>?_
  ·refine go 7 ?_;exact a0r ⟨rfl,(bB (by simp only[h9,bS])),trivial⟩ rfl rfl
  ·refine go 7 ?_;exact a0r ⟨rfl,(bB (by simp only[h9,bS])),trivial⟩ rfl rfl
 ·refine gC 0 (fun h14 p14=>?_) fun h14 p14=>?_
  ·refine go 8 ?_;exact q_v (congrArg Value.bool (by simp only[a0g,show decide (((r.options.length:Nat):Int)=0)=decide (((r.options.length:Nat):Int)<1) from by rw[decide_eq_decide];omega,h14];rfl))
  ·refine go 9 ?_
   refine a0x (α:=Nat) 0 (fun i=>I)
    (fun i=>[(1,.pointer (some ⟨g1,0,none⟩)),(3,.int .i64 ((i:Nat):Int))])
    (fun i=>[.blk g1 109 (r.cells (.slice S r.options.length d))])
    (fun i=>i≤r.options.length∧a3v a4z r.options i=true)
    (fun i=>r.options.length-i) ⟨Nat.zero_le _,rfl⟩ rfl sb rfl ?_
   intro i ⟨hi,hn⟩;refine gC 10 (fun h19 p19=>?_) fun h19 p19=>?_
   ·have hlt:i<r.options.length:=oM;refine go 10 ?_;obtain⟨b25,o25,w25,e25,c25,r25⟩:=RdA.at_ hSA (i:=i) hlt;obtain rfl:=r25;refine go 3 ?_;refine cV (c0A _ r.options[i] (hs _ (List.getElem_mem hlt))) ?_;refine gC 3 (fun h28 p28=>?_) fun h28 p28=>?_
    ·refine go 13 ?_;exact q_v (congrArg Value.bool (by simp only[a0g,show decide (((r.options.length:Nat):Int)=0)=decide (((r.options.length:Nat):Int)<1) from by rw[decide_eq_decide];omega,h14,a1g hlt (show a4z (r.options.take i) r.options[i]=false by simp only[a4z,show a1D r.options[i]=false by simpa using h28,bS]),bS]))
    ·refine go 8 ?_
     refine a0x (α:=Nat) 0 (fun m=>I)
      (fun m=>[(1,.pointer (some ⟨g1,0,none⟩)),(3,.int .i64 ((i:Nat):Int)),(4,.int .i64 ((m:Nat):Int))])
      (fun m=>[.blk g1 109 (r.cells (.slice S r.options.length d))])
      (fun m=>m≤i∧∀j x,j<m→r.options[j]? = some x→decide (x=r.options[i])=false)
      (fun m=>i-m) ⟨Nat.zero_le _,fun j x hj=>absurd hj (Nat.not_lt_zero j)⟩ rfl sb rfl ?_
     intro m ⟨hmm,hq⟩;refine gC 8 (fun h31 p31=>?_) fun h31 p31=>?_
     ·have hlm:m<r.options.length:=oM;refine go 6 ?_;refine dG 0 3 ?_;obtain⟨b37,o37,w37,e37,c37,r37⟩:=RdA.at_ hSA (i:=m) hlm;obtain rfl:=r37;refine a0F 3 rfl rfl (by kernel_rfl) rfl (.refl _) rfl (a0l he rfl rfl e37 (m) oM hlm) ?_;refine dG 4 4 ?_;obtain⟨b42,o42,w42,e42,c42,r42⟩:=RdA.at_ hSA (i:=i) hlt;obtain rfl:=r42;refine dG 8 2 ?_;refine a0F 10 rfl rfl (by kernel_rfl) rfl (.refl _) rfl (b1n T.eqg_130 (b2V r.options[m] r.options[i]) rfl rfl) ?_;refine gC 2 (fun h44 p44=>?_) fun h44 p44=>?_
      ·refine go 16 ?_;exact q_v (congrArg Value.bool (by simp only[a0g,show decide (((r.options.length:Nat):Int)=0)=decide (((r.options.length:Nat):Int)<1) from by rw[decide_eq_decide];omega,h14,a1g hlt (show a4z (r.options.take i) r.options[i]=false by simp only[a4z,b4C (show m<i from oM) hlm h44,bS]),bS]))
      ·refine go 9 ?_;exact a0w (m+1) ⟨oM,a1W (p:=fun x=>decide (x=r.options[i])) hq (show m<r.options.length from oM) h44⟩ oM rfl sb rfl
     ·refine go 12 ?_;exact a0w (i+1) ⟨oM,a1r hn hlt (by simp only[a4z,b6l hq (show i≤m from oM),p28,bS])⟩ oM rfl sb rfl
   ·refine go 12 ?_;have e:i=r.options.length:=oM;subst e;exact q_v (congrArg Value.bool (by simp only[a0g,hn,show decide (((r.options.length:Nat):Int)=0)=decide (((r.options.length:Nat):Int)<1) from by rw[decide_eq_decide];omega,h14];rfl))
theorem a9c (I:IMap) (r:Rep) (S:Option Addr) (d:Nat) (hr:RdS I (.slice S r.options.length d) r.options) (hs:∀e∈r.options,SmE e) :
    FnV prog 97 #[.agg (r.cells (.slice S r.options.length d)).toArray] I (.int .i64 (chs r)):=by
 have hl5:=hr.lenLe;refine enter func97 call97 rfl ntmps97 rfl fun w0=>?_;refine go 4 fun g1=>?_
 refine go 8 ?_;refine cV (c0B _ r S d hr hs) ?_;refine gC 3 (fun h5 p5=>?_) fun h5 p5=>?_
 ·refine go 8 ?_;exact q_v (congrArg (Value.int .i64) (by simp only[chs,show a0g r=false by simpa using h5,Bool.true_eq_false,Bool.false_eq_true,if_true,if_false]))
 ·have hl4:=a3g (r:=r) (by simpa using h5);refine gC 9 (fun h7 p7=>?_) fun h7 p7=>?_
  ·refine go 5 ?_;refine o_v rfl (a2u rfl rfl ⟨oM,by have:=hl4;omega⟩) ?_;refine go 6 ?_;exact q_v (congrArg (Value.int .i64) (by simp only[chs,show a0g r=true by simpa using h5,h7,Bool.true_eq_false,Bool.false_eq_true,if_true,if_false]))
  ·refine go 12 ?_;exact q_v (congrArg (Value.int .i64) (by simp only[chs,show a0g r=true by simpa using h5,h7,Bool.true_eq_false,Bool.false_eq_true,if_true,if_false]))
theorem c7A (I:IMap) (v:Value) (l:List Rep) (hv:RdS I v l) (n:Int) :
    FnV prog 35 #[v,.int .i64 n] I (.bool (c8V l n)):=by
 obtain⟨A,c0,rfl,hA,hc,hm⟩:=hv;refine enter func35 call35 rfl ntmps35 rfl fun w0=>?_;refine go 12 ?_
 refine a0x (α:=Nat) 0 (fun i=>I)
  (fun i=>[(0,.slice A l.length c0),(1,.int .i64 n),(5,.int .i64 ((i:Nat):Int))])
  (fun i=>[])
  (fun i=>i≤l.length∧a3v (fun _ r=>c5X r.options 6) l i=true)
  (fun i=>l.length-i) ⟨Nat.zero_le _,rfl⟩ rfl sb rfl ?_
 intro i ⟨hi,hn⟩;refine gS 8 10 (fun h10 p10=>?_) fun h10 p10=>?_
 ·have hlt:i<l.length:=oM;refine gC 7 (fun h15 p15=>?_) fun h15 p15=>?_
  ·have hlt:i<l.length:=oM;refine go 8 ?_;obtain⟨b20,o20,w20,e20,c20,r20⟩:=RdA.at_ hA (i:=i) hlt;obtain⟨q20,rfl,S20,d20,rfl,hS20,hd20,hm20⟩:=r20;refine go 4 ?_;refine cV (d1X _ _ l[i].options ⟨_,_,rfl,hS20,hd20,hm20⟩ 6) ?_;refine gC 3 (fun h24 p24=>?_) fun h24 p24=>?_
   ·refine go 12 ?_;exact q_v (congrArg Value.bool (by simp only[c8V,a1g (f:=fun _ r=>c5X r.options 6) hlt (by simpa using h24),bS]))
   ·refine go 9 ?_;exact a0w (i+1) ⟨oM,a1r hn hlt (by simpa using h24)⟩ oM rfl sb rfl
  ·refine go 16 ?_;exact q_v (congrArg Value.bool (by rw[c8V,show decide (((l.length:Nat):Int)≤n)=false from decide_eq_false oM];simp))
 ·refine go 24 ?_;have e:i=l.length:=oM;subst e;exact q_v (congrArg Value.bool (by simp only[c8V,hn,bS]))
end Go.Proofs.YtgmkjpafapgccaaGreat
namespace Go.Proofs.YtgmkjpafapgccaaGreat
open Go Go.Sx Tryz
set_option linter.all false
set_option maxRecDepth 20000
set_option maxHeartbeats 4000000
theorem b1f (I:IMap) (v:Value) (l:List Rep) (hv:RdS I v l) (hl:l.length≤1000000) (hsl:∀r∈l,∀e∈r.options,SmE e) (w:Value) (ch:List Int) (hw:RdS I w ch) :
    FnI prog 20 #[v,w] I (fun u J=>∃z,u = .tuple #[z,.int .i64 (a0J l ch).2]∧RdS J z (a0J l ch).1):=by
 obtain⟨A,c0,rfl,hA,hc,hm⟩:=hv;obtain⟨B,c1,rfl,hB,hc1,hm1⟩:=hw;refine enter func20 call20 rfl ntmps20 rfl fun w0=>?_;refine go 6 ?_;refine c1u ?_;refine gC 10 (fun h14 p14=>?_) fun h14 p14=>?_
 ·refine go 8 ?_;refine a4O ?_;refine go 1 ?_;exact q_i ⟨_,by rw[b5f (by simpa using h14)],by rw[b5f (by simpa using h14)];exact RdS.nil'⟩
 ·have hle:((l.length:Nat):Int)=(ch.length:Nat):=by simpa using h14
  refine go 4 ?_;refine a0E 130 14 ?_;refine go 4 ?_;refine c1s ?_;refine go 10 ?_
  refine a3A ((0:Nat)) (_) ([]) ([]) (fun i v6 xs out=>I)
   (fun i v6 xs out=>[(1,.slice B ch.length c1),(6,v6),(15,.slice A l.length c0),(16,.int .i64 ((l.length:Nat):Int)),(17,.int .i64 ((i:Nat):Int))])
   (fun i v6 xs out=>[.row v6 130 14 out.length xs])
   (fun i v6 xs out=>i≤l.length∧a8o okK l ch i=true∧a6F l ch i=out∧Flat I xs out)
   (fun i v6 xs out=>l.length-i) ⟨Nat.zero_le _,rfl,rfl,.nil⟩ rfl sb rfl ?_
  intro i v6 xs out ⟨hi,hok,hev,hF⟩;have hol:out.length≤i:=by rw[←hev];exact c2f _ _ _
  refine gC 6 (fun h18 p18=>?_) fun h18 p18=>?_
  ·have hlt:i<l.length:=oM;have hlt2:i<ch.length:=oM;refine go 7 ?_;obtain⟨b20,o20,w20,e20,c20,r20⟩:=RdA.at_ hA (i:=i) oM;obtain⟨q20,rfl,S20,d20,rfl,hS20,hd20,hm20⟩:=r20;refine go 4 fun g8=>?_
   refine go 9 ?_;obtain⟨b24,o24,w24,e24,c24,r24⟩:=RdA.at_ hB (i:=i) oM;obtain rfl:=r24;refine gS 11 28 (fun h28 p28=>?_) fun h28 p28=>?_
   ·have hbad:okK l[i] ch[i]=false:=by simp[okK,h28]
    refine go 21 ?_;refine a4O ?_;refine go 1 ?_;exact q_i ⟨_,by rw[a6x hlt hlt2 hbad],by rw[a6x hlt hlt2 hbad];exact RdS.nil'⟩
   ·refine go 3 ?_;refine a0n rfl rfl h28 (a0y (a3I _ l[i] S20 d20 ⟨_,_,rfl,hS20,hd20,hm20⟩ (hsl _ (List.getElem_mem hlt))) rfl rfl ?_);refine gC 4 (fun h33 p33=>?_) fun h33 p33=>?_
    ·have hbad:okK l[i] ch[i]=false:=by simp_all [okK]
     refine go 13 ?_;refine a4O ?_;refine go 1 ?_;exact q_i ⟨_,by rw[a6x hlt hlt2 hbad],by rw[a6x hlt hlt2 hbad];exact RdS.nil'⟩
    ·have hgood:okK l[i] ch[i]=true:=by simp_all [okK]
     have hcl:=d3K l[i];refine gC 12 (fun h38 p38=>?_) fun h38 p38=>?_
     ·refine go 9 ?_;refine a0a ?_;exact a1G (i+1) (_) (_) (out) ⟨oM,a8p hok hlt hlt2 hgood,d4e hlt hlt2 hev (by simpa using h38),hF⟩ oM rfl sb (by first|rfl|(simp only[List.length_append,List.length_singleton];rfl)|simp only[List.length_append,List.length_singleton])
     ·have hk:ch[i].toNat<l[i].options.length:=by simp_all [okK];omega
      refine go 7 ?_;obtain⟨b43,o43,w43,e43,c43,r43⟩:=RdA.at_ hS20 (i:=ch[i].toNat) hk;obtain rfl:=r43;refine o_v rfl (a0l he rfl rfl e43 (ch[i].toNat) oM hk) ?_;refine go 3 fun v45=>?_
      refine go 1 ?_;refine a0d ?_;refine a0O he he rfl rfl rfl rfl rfl oM oM rfl fun v46=>?_;refine go 9 ?_;refine a0b ?_;refine a0a ?_;refine a0b ?_;refine a0a ?_;exact a1G (i+1) (_) (_) (out++[l[i].options[ch[i].toNat]]) ⟨oM,a8p hok hlt hlt2 hgood,d0w hlt hlt2 hev hk,hF.append (.one rfl)⟩ oM rfl sb (by first|rfl|(simp only[List.length_append,List.length_singleton];rfl)|simp only[List.length_append,List.length_singleton])
  ·refine go 7 ?_;obtain rfl:i=l.length:=oM;refine a0i (l:=out) rfl rfl (hF) fun Ip jp Rp=>?_;refine go 6 ?_;refine a4O ?_;refine go 1 ?_;exact q_i ⟨_,by rw[b5g hle hok],by rw[b5g hle hok,hev];exact Rp⟩
end Go.Proofs.YtgmkjpafapgccaaGreat
namespace Go.Proofs.YtgmkjpafapgccaaGreat
open Go Go.Sx Tryz
set_option linter.all false
set_option maxRecDepth 20000
set_option maxHeartbeats 4000000
instance:Has (prog.underlying 357) (.int .u64):=hk
theorem d4q (I:IMap) (s:ByteArray) :
    FnV prog 223 #[.string s] I (.bool false):=by
 refine enter func223 call223 rfl ntmps223 rfl fun w0=>?_;refine go 15 ?_;exact q_v (congrArg Value.bool (by simp))
theorem d7D (I:IMap) (s t:ByteArray) :
    FnV prog 239 #[.string s,.string t] I (.bool (sLt s t)):=by
 refine enter func239 call239 rfl ntmps239 rfl fun w0=>?_;refine go 9 ?_;refine cV (d4q _ s) ?_;refine go 15 ?_;exact q_v rfl
theorem d4n (I:IMap) {rest:Rst 1} {cap:Nat} (g:Nat) (l:List ByteArray) (hl2:l.length≤12) (hc:l.length+rest.l.length=cap) (hcm:cap≤maxLen) :
    FnX prog 233 #[.slice (some ⟨g,0,none⟩) l.length cap,.int .i64 0,.int .i64 ((l.length:Nat):Int)] I [.blk g 9 (a1x l++rest.l).flatten] (fun u r=>u = .tuple #[]∧∃m,Pm l m∧r = .blk g 9 (a1x m++rest.l).flatten):=by
 refine enter func233 call233 rfl ntmps233 rfl fun w0=>?_;refine go 3 ?_;refine o_v rfl (OV.cast (u:=.int .i64 ((1:Nat):Int)) (a2u rfl rfl ⟨oM,oM⟩) (congrArg (Value.int .i64) oM)) ?_;refine go 4 ?_
 refine a0B (1) (l) (fun i m=>I)
  (fun i m=>[(0,.slice (some ⟨g,0,none⟩) l.length cap),(1,.int .i64 0),(2,.int .i64 ((l.length:Nat):Int)),(6,.int .i64 ((i:Nat):Int))])
  (fun i m=>[.blk g 9 (a1x m++rest.l).flatten])
  (fun i m=>(i≤l.length∨i=1)∧Pm l m)
  (fun i m=>l.length-i) ⟨.inr rfl,Pm.refl l⟩ rfl sb rfl ?_
 intro i m ⟨hi,hpm⟩;refine gC 8 (fun h12 p12=>?_) fun h12 p12=>?_
 ·have hlt:i<l.length:=oM;refine go 11 ?_
  refine a0B (i) (m) (fun j k=>I)
   (fun j k=>[(0,.slice (some ⟨g,0,none⟩) l.length cap),(1,.int .i64 0),(2,.int .i64 ((l.length:Nat):Int)),(6,.int .i64 ((i:Nat):Int)),(7,.int .i64 ((j:Nat):Int))])
   (fun j k=>[.blk g 9 (a1x k++rest.l).flatten])
   (fun j k=>j≤i∧Pm l k)
   (fun j k=>j) ⟨Nat.le_refl _,hpm⟩ rfl sb rfl ?_
  intro j k ⟨hj,hpk⟩;have hkl:=hpk.1;refine go 3 ?_;refine dG 0 4 ?_;refine gS 0 19 (fun h19 p19=>?_) fun h19 p19=>?_
  ·have hjk:j<k.length:=oM;have hjk1:j-1<k.length:=oM;refine dG 4 2 ?_;refine d_t 6 rfl rfl (by kernel_rfl) rfl (fun _ m=>m.keeps (.refl _)) (a1O rfl rfl h19 (a0l he rfl rfl rfl (j) oM oM)) ?_;refine d_t 7 rfl rfl (by kernel_rfl) rfl (fun _ m=>m.keeps (.refl _)) (a1O rfl rfl h19 (a5P m0 (Uk.append (a1Z _) rest.uk) he rfl (j) oM (a5K hjk))) ?_;refine dG 8 2 ?_;refine d_t 10 rfl rfl (by kernel_rfl) rfl (fun _ m=>m.keeps (.refl _)) (a1O rfl rfl h19 (OV.cast (u:=.int .i64 ((j-1:Nat):Int)) (a1j rfl rfl ⟨oM,oM⟩) (congrArg (Value.int .i64) oM))) ?_;refine d_t 11 rfl rfl (by kernel_rfl) rfl (fun _ m=>m.keeps (.refl _)) (a1O rfl rfl h19 (a0l he rfl rfl rfl (j-1) oM oM)) ?_;refine d_t 12 rfl rfl (by kernel_rfl) rfl (fun _ m=>m.keeps (.refl _)) (a1O rfl rfl h19 (a5P m0 (Uk.append (a1Z _) rest.uk) he rfl (j-1) oM (a5K hjk1))) ?_;refine dH 13 0 ?_;refine a0n rfl rfl h19 (a0y (d7D _ _ _) rfl rfl ?_);refine dG 14 1 ?_;refine gC 2 (fun h30 p30=>?_) fun h30 p30=>?_
   ·refine go 4 ?_;refine ds1 ?_;refine dG 0 4 ?_;refine a0F 4 rfl rfl (by kernel_rfl) rfl (.cons _ .slnil) rfl (OV.cast (u:=.int .i64 ((j-1:Nat):Int)) (a1j rfl rfl ⟨oM,oM⟩) (congrArg (Value.int .i64) oM)) ?_;refine dG 5 2 ?_;refine a0F 7 rfl rfl (by kernel_rfl) rfl (.cons _ .slnil) rfl (OV.cast (u:=.int .i64 ((j-1:Nat):Int)) (a1j rfl rfl ⟨oM,oM⟩) (congrArg (Value.int .i64) oM)) ?_;refine a0F 8 rfl rfl (by kernel_rfl) rfl (.cons _ .slnil) rfl (a0l he rfl rfl rfl (j-1) oM oM) ?_;refine dG 10 2 ?_;refine a0F 12 rfl rfl (by kernel_rfl) rfl (.cons _ .slnil) rfl (a0l he rfl rfl rfl (j) oM oM) ?_;refine dT2 9 13 ?_ ?_
    ·refine a0q rfl (a5P m0 (Uk.append (a1Z _) rest.uk) he rfl (j-1) oM (a5K hjk1)) ?_;refine dH 13 0 ?_;refine a0q rfl (a5P m0 (Uk.append (a1Z _) rest.uk) he rfl (j) oM (a5K hjk)) ?_;refine go 1 ?_;refine a0F 14 rfl rfl (by kernel_rfl) rfl (.cons _ .slnil) rfl (a0l he rfl rfl rfl (j) oM oM) ?_;refine dH 15 0 ?_;refine a1U _ (j) (by first|exact Uk.append (a1Z _) rest.uk|exact (Uk.append (a1Z _) rest.uk).set rfl _) he rfl rfl rfl rfl rfl oM (by simp[a2t];omega) ?_;refine go 1 ?_;refine a0F 16 rfl rfl (by kernel_rfl) rfl (.cons _ .slnil) rfl (a0l he rfl rfl rfl (j-1) oM oM) ?_;refine dH 17 0 ?_;refine a1U _ (j-1) (by first|exact Uk.append (a1Z _) rest.uk|exact (Uk.append (a1Z _) rest.uk).set rfl _) he rfl rfl rfl rfl rfl oM (by simp[a2t];omega) ?_;refine go 6 ?_;refine o_v rfl (OV.cast (u:=.int .i64 ((j-1:Nat):Int)) (a1j rfl rfl ⟨oM,oM⟩) (congrArg (Value.int .i64) oM)) ?_;refine go 3 ?_;exact a0o (j-1) ((k.set j k[j-1]).set (j-1) k[j]) ⟨oM,hpk.swap hjk hjk1⟩ oM rfl sb (by first|rw[←c4p hjk hjk1] | rw[←b9a hjk hjk1 oM])
    ·refine a0q rfl (a5P m0 (Uk.append (a1Z _) rest.uk) he rfl (j) oM (a5K hjk)) ?_;refine dH 9 0 ?_;refine a0q rfl (a5P m0 (Uk.append (a1Z _) rest.uk) he rfl (j-1) oM (a5K hjk1)) ?_;refine go 1 ?_;refine a0F 14 rfl rfl (by kernel_rfl) rfl (.cons _ .slnil) rfl (a0l he rfl rfl rfl (j) oM oM) ?_;refine dH 15 0 ?_;refine a1U _ (j) (by first|exact Uk.append (a1Z _) rest.uk|exact (Uk.append (a1Z _) rest.uk).set rfl _) he rfl rfl rfl rfl rfl oM (by simp[a2t];omega) ?_;refine go 1 ?_;refine a0F 16 rfl rfl (by kernel_rfl) rfl (.cons _ .slnil) rfl (a0l he rfl rfl rfl (j-1) oM oM) ?_;refine dH 17 0 ?_;refine a1U _ (j-1) (by first|exact Uk.append (a1Z _) rest.uk|exact (Uk.append (a1Z _) rest.uk).set rfl _) he rfl rfl rfl rfl rfl oM (by simp[a2t];omega) ?_;refine go 6 ?_;refine o_v rfl (OV.cast (u:=.int .i64 ((j-1:Nat):Int)) (a1j rfl rfl ⟨oM,oM⟩) (congrArg (Value.int .i64) oM)) ?_;refine go 3 ?_;exact a0o (j-1) ((k.set j k[j-1]).set (j-1) k[j]) ⟨oM,hpk.swap hjk hjk1⟩ oM rfl sb (by first|rw[←c4p hjk hjk1] | rw[←b9a hjk hjk1 oM])
   ·refine go 12 ?_;exact a0o (i+1) (k) ⟨.inl oM,hpk⟩ oM rfl sb rfl
  ·refine dG 4 11 ?_;refine go 15 ?_;exact a0o (i+1) (k) ⟨.inl oM,hpk⟩ oM rfl sb rfl
 ·refine go 5 ?_;exact q_x ⟨rfl,m,hpm,rfl⟩
theorem d4O (I:IMap) {rest:Rst 1} {cap:Nat} (g:Nat) (l:List ByteArray) (hl2:l.length≤12) (hc:l.length+rest.l.length=cap) (hcm:cap≤maxLen) (z:Int) :
    FnX prog 159 #[.slice (some ⟨g,0,none⟩) l.length cap,.int .i64 0,.int .i64 ((l.length:Nat):Int),.int .i64 z] I [.blk g 9 (a1x l++rest.l).flatten] (fun u r=>u = .tuple #[]∧∃m,Pm l m∧r = .blk g 9 (a1x m++rest.l).flatten):=by
 refine enter func159 call159 rfl ntmps159 rfl fun w0=>?_;refine go 11 ?_
 refine a0x (α:=Nat) 0 (fun i=>I)
  (fun i=>[(0,.slice (some ⟨g,0,none⟩) l.length cap),(1,.int .i64 0),(2,.int .i64 ((l.length:Nat):Int))])
  (fun i=>[.blk g 9 (a1x l++rest.l).flatten])
  (fun i=>True)
  (fun i=>0) trivial rfl sb rfl ?_
 intro i _;refine go 5 ?_;refine o_v rfl (OV.cast (u:=.int .i64 ((l.length:Nat):Int)) (a1j rfl rfl ⟨oM,oM⟩) (congrArg (Value.int .i64) oM)) ?_;refine go 7 ?_;refine o_v rfl (OV.cast (u:=.bool true) (d2R rfl rfl) (congrArg Value.bool (decide_eq_true oM))) ?_;refine go 9 ?_;refine a0Q (d4n _ g l hl2 hc hcm) rfl rfl fun v27 s27 q27=>?_;obtain⟨rfl,m,hpm,rfl⟩:=q27;refine go 8 ?_;exact q_x ⟨rfl,m,hpm,rfl⟩
theorem d7C (I:IMap) (n:Nat) (hn:n<200) :
    FnE prog 243 #[.int .u64 ((n:Nat):Int)] I (fun u=>∃k:Nat,u = .int .i64 (k:Int)):=by
 refine enter func243 call243 rfl ntmps243 rfl fun w0=>?_;refine go 9 ?_;refine o_v rfl (OV.cast (u:=.bool false) (b7l rfl rfl) (congrArg Value.bool (decide_eq_false oM))) ?_;refine go 9 ?_;refine o_v rfl (OV.cast (u:=.bool false) (b7l rfl rfl) (congrArg Value.bool (decide_eq_false oM))) ?_;refine go 9 ?_;refine o_v rfl (OV.cast (u:=.bool false) (b7l rfl rfl) (congrArg Value.bool (decide_eq_false oM))) ?_;refine go 9 ?_;refine o_v rfl (a2b he he rfl (m:=((n:Nat):Int)) (c5h n oM)) ?_;refine o_v rfl (d2U he rfl rfl n rfl (Nat.lt_of_lt_of_le hn (by decide +kernel))) ?_;refine o_v rfl (a2b he he rfl (d0h _)) ?_;refine o_v rfl (a2u rfl rfl (c5H _)) ?_;refine go 5 ?_;exact q_e ⟨_,by rw[Int.zero_add]⟩
theorem c1m (I:IMap) (n:Nat) (hn:n<200) :
    FnE prog 160 #[.int .u64 ((n:Nat):Int)] I (fun u=>∃k:Nat,u = .int .i64 (k:Int)):=by
 refine enter func160 call160 rfl ntmps160 rfl fun w0=>?_;refine go 13 ?_;refine a0T (d7C _ n hn) rfl rfl fun v7 q7=>?_;obtain⟨k,rfl⟩:=q7;refine go 5 ?_;exact q_e ⟨_,rfl⟩
theorem d2u (I:IMap) {rest:Rst 1} {cap:Nat} (g:Nat) (l:List ByteArray) (hl2:l.length≤12) (hc:l.length+rest.l.length=cap) (hcm:cap≤maxLen) :
    FnX prog 78 #[.slice (some ⟨g,0,none⟩) l.length cap] I [.blk g 9 (a1x l++rest.l).flatten] (fun u r=>u = .tuple #[]∧∃m,Pm l m∧r = .blk g 9 (a1x m++rest.l).flatten):=by
 refine enter func78 call78 rfl ntmps78 rfl fun w0=>?_;refine go 11 ?_;refine o_v rfl (a2b he he rfl (m:=((l.length:Nat):Int)) (wrap_u64 _ oM oM)) ?_;refine go 1 ?_;refine a0T (c1m _ l.length oM) rfl rfl fun v9 q9=>?_;obtain⟨z,rfl⟩:=q9;refine go 1 ?_;refine a0Q (d4O _ g l hl2 hc hcm z) rfl rfl fun v10 s10 q10=>?_;obtain⟨rfl,m,hpm,rfl⟩:=q10;refine go 2 ?_;exact q_x ⟨rfl,m,hpm,rfl⟩
theorem d4m (I:IMap) :
    FnV prog 233 #[.slice none 0 0,.int .i64 0,.int .i64 0] I (.tuple #[]):=by
 refine enter func233 call233 rfl ntmps233 rfl fun w0=>?_;refine go 3 ?_;refine o_v rfl (OV.cast (u:=.int .i64 ((1:Nat):Int)) (a2u rfl rfl ⟨oM,oM⟩) (congrArg (Value.int .i64) oM)) ?_;refine go 4 ?_
 refine a0x (α:=Nat) 0 (fun i=>I)
  (fun i=>[(2,.int .i64 0),(6,.int .i64 1)])
  (fun i=>[])
  (fun i=>True)
  (fun i=>0) trivial rfl sb rfl ?_
 intro i _;refine go 5 ?_;refine o_v rfl (OV.cast (u:=.bool false) (b7m rfl rfl) (congrArg Value.bool (decide_eq_false oM))) ?_;refine go 8 ?_;exact q_v rfl
theorem d4N (I:IMap) (z:Int) :
    FnV prog 159 #[.slice none 0 0,.int .i64 0,.int .i64 0,.int .i64 z] I (.tuple #[]):=by
 refine enter func159 call159 rfl ntmps159 rfl fun w0=>?_;refine go 11 ?_
 refine a0x (α:=Nat) 0 (fun i=>I)
  (fun i=>[(0,.slice none 0 0),(1,.int .i64 0),(2,.int .i64 0)])
  (fun i=>[])
  (fun i=>True)
  (fun i=>0) trivial rfl sb rfl ?_
 intro i _;refine go 5 ?_;refine o_v rfl (OV.cast (u:=.int .i64 0) (a1j rfl rfl ⟨oM,oM⟩) rfl) ?_;refine go 7 ?_;refine o_v rfl (OV.cast (u:=.bool true) (d2R rfl rfl) (congrArg Value.bool (decide_eq_true oM))) ?_;refine go 9 ?_;refine cV (d4m _) ?_;refine go 8 ?_;exact q_v rfl
theorem b8V (I:IMap) :
    FnV prog 78 #[.slice none 0 0] I (.tuple #[]):=by
 refine enter func78 call78 rfl ntmps78 rfl fun w0=>?_;refine go 11 ?_;refine o_v rfl (a2b he he rfl (m:=((0:Nat):Int)) (wrap_u64 _ oM oM)) ?_;refine go 1 ?_;refine a0T (c1m _ 0 oM) rfl rfl fun v9 q9=>?_;obtain⟨z,rfl⟩:=q9;refine go 1 ?_;refine cV (d4N _ z) ?_;refine go 2 ?_;exact q_v rfl
theorem b8W (I:IMap) (v:Value) (l:List ByteArray) (xs:List Value) (hF:Flat I xs l) (hl2:l.length≤12) :
  FnX prog 78 #[v] I [.row v 9 1 l.length xs] (fun u r=>u = .tuple #[]∧∃m ys,Pm l m∧Flat I ys m∧r = .row v 9 1 l.length ys):=by
 obtain⟨xss,rfl,hC⟩:=FlatC.of hF;refine FnX.of_rowV (args:=fun v=>[v]) hC.uk hC.len (fun h0 h1=>?_) fun g cap rest hv hR hc hcm=>?_
 ·obtain rfl:l=[]:=List.eq_nil_of_length_eq_zero h0;subst h1;refine (FnX.of_V (t:=9) (k:=1) (b8V I)).weak ?_;rintro u r ⟨rfl,rfl⟩;exact⟨rfl,[],[],Pm.refl _,.nil,rfl⟩
 ·subst hv;obtain rfl:=b8Z hC;refine FnX.backE (k:=1) ((d2u I (rest:=⟨rest,hR⟩) g l hl2 hc hcm).weak ?_);rintro u r ⟨rfl,m,hpm,rfl⟩;exact⟨a1x m,rest,l.length,cap,a1Z m,hR,by rw[a2t,hpm.1],hc,hcm,rfl,rfl,m,_,hpm,(a2T I m).flat,rfl⟩
theorem d2t (I:IMap) (v:Value) (l:List ByteArray) (xs:List Value) (hF:Flat I xs l) (hl:0<l.length) (hl2:l.length≤12) :
  FnX prog 78 #[v] I [.row v 9 1 l.length xs] (fun u r=>u = .tuple #[]∧∃m ys,Pm l m∧Flat I ys m∧r = .row v 9 1 l.length ys):=b8W I v l xs hF hl2
end Go.Proofs.YtgmkjpafapgccaaGreat
namespace Go.Proofs.YtgmkjpafapgccaaGreat
open Go Go.Sx Tryz
set_option linter.all false
set_option maxRecDepth 20000
set_option maxHeartbeats 4000000
instance:Has (a2j prog 88) ([.slice none 0 0],1,24):=hk
instance:Has (a2j prog 9) ([.string ⟨#[]⟩],1,16):=hk
instance:Has (a6J prog 372) (88,1):=hk
instance:Has (prog.underlying 372) (.slice 88):=hk
instance:Has (a1o prog 88) [.slice none 0 0]:=hk
theorem d7s (I:IMap) (n:Nat) (hn:n≤1000000) :
    FnX prog 337 #[.slice none 0 0,.int .i64 ((n:Nat):Int)] I [] (fun u r=>r = .row u 9 1 0 []):=by
 refine enter func337 call337 rfl ntmps337 rfl fun w0=>?_;refine go 9 ?_;refine o_v rfl (OV.cast (u:=.bool false) (b7m rfl rfl) (congrArg Value.bool (decide_eq_false oM))) ?_;refine go 10 ?_;refine o_v rfl (c8u he rfl) ?_;refine go 3 ?_;refine o_v rfl (OV.cast (u:=.int .i64 ((n:Nat):Int)) (a1j rfl rfl ⟨oM,oM⟩) (congrArg (Value.int .i64) oM)) ?_;refine gC 9 (fun h16 p16=>?_) fun h16 p16=>?_
 ·refine go 3 ?_;refine o_v rfl (c8u he rfl) ?_;refine o_v rfl (a2F he rfl rfl 0 rfl oM) ?_;refine go 2 ?_;refine b3z he he he rfl rfl rfl rfl oM oM (by unfold maxLen;omega) rfl fun g22 r22 hr22=>?_;refine go 2 ?_;refine o_v rfl (a2F he rfl rfl 0 rfl oM) ?_;refine go 11 ?_;refine a2e (xss:=[]) (m:=0) (cap:=n+r22) (k:=1) (by intro c hc;cases hc) (Uk.rep rfl _) rfl (by simp) hr22 ?_;exact q_x rfl
 ·refine go 10 ?_;refine a0E 9 1 ?_;exact q_x rfl
theorem d0g (I:IMap) (v:Value) (ls:List (List ByteArray)) (hv:RdS I v ls) (hb:ls.flatten.length≤1000000) (hl:ls.length≤1000000) :
    FnX prog 308 #[v] I [] (fun u r=>∃xs,r = .row u 9 1 ls.flatten.length xs∧Flat I xs ls.flatten):=by
 obtain⟨A,c0,rfl,hA,hc,hm⟩:=hv;refine enter func308 call308 rfl ntmps308 rfl fun w0=>?_;refine go 19 ?_
 refine a0x (α:=Nat) 0 (fun i=>I)
  (fun i=>[(0,.slice A ls.length c0),(3,.int .i64 (((ls.take (i)).flatten.length:Nat):Int)),(9,.slice A ls.length c0),(10,.int .i64 ((ls.length:Nat):Int)),(11,.int .i64 ((i:Nat):Int))])
  (fun i=>[])
  (fun i=>i≤ls.length)
  (fun i=>ls.length-i) (Nat.zero_le _) rfl sb rfl ?_
 intro i hi;have hfi:=a6r ls i;refine gC 6 (fun h12 p12=>?_) fun h12 p12=>?_
 ·have hlt:i<ls.length:=oM;have hf1:=congrArg List.length (a6s hlt);rw[List.length_append]at hf1
  have hf2:=a6r ls (i+1);refine go 6 ?_;obtain⟨b13,o13,w13,e13,c13,r13⟩:=RdA.at_ hA (i:=i) oM;obtain⟨q13,rfl,S13,d13,rfl,hS13,hd13,hm13⟩:=r13;refine go 10 ?_;refine o_v rfl (OV.cast (u:=.int .i64 (((ls.take (i+1)).flatten.length:Nat):Int)) (a2u rfl rfl ⟨oM,oM⟩) (congrArg (Value.int .i64) oM)) ?_;refine go 6 ?_;refine o_v rfl (OV.cast (u:=.bool false) (b7m rfl rfl) (congrArg Value.bool (decide_eq_false oM))) ?_;refine go 11 ?_;exact a0w (i+1) oM oM rfl sb rfl
 ·have e:i=ls.length:=oM;subst e;rw[List.take_length];refine go 9 ?_;refine a1X (d7s _ ls.flatten.length hb) rfl rfl fun v24 s24 q24=>?_;obtain rfl:=q24;refine go 12 ?_
  refine a4d ((0:Nat)) (_) ([]) (fun i v6 xs=>I)
   (fun i v6 xs=>[(0,.slice A ls.length c0),(6,v6),(25,.slice A ls.length c0),(26,.int .i64 ((ls.length:Nat):Int)),(27,.int .i64 ((i:Nat):Int))])
   (fun i v6 xs=>[.row v6 9 1 (ls.take (i)).flatten.length xs])
   (fun i v6 xs=>i≤ls.length∧Flat I xs (ls.take i).flatten)
   (fun i v6 xs=>ls.length-i) ⟨Nat.zero_le _,.nil⟩ rfl sb rfl ?_
  intro i v6 xs ⟨hi,hF⟩;have hfi:=a6r ls i;refine gC 6 (fun h28 p28=>?_) fun h28 p28=>?_
  ·have hlt:i<ls.length:=oM;have hf1:=congrArg List.length (a6s hlt);rw[List.length_append]at hf1
   have hf2:=a6r ls (i+1);refine go 6 ?_;obtain⟨b29,o29,w29,e29,c29,r29⟩:=RdA.at_ hA (i:=i) oM;obtain⟨q29,rfl,S29,d29,rfl,hS29,hd29,hm29⟩:=r29;refine go 9 ?_;refine a2q (⟨_,_,rfl,hS29,hd29,hm29⟩) rfl he he rfl rfl rfl rfl oM oM rfl fun v33 x33 f33=>?_;refine go 9 ?_;exact a2n (i+1) (_) (_) ⟨oM,by rw[a6s hlt];exact hF.append f33⟩ oM rfl sb (by rw[a6s hlt,List.length_append])
  ·refine go 13 ?_;have e:i=ls.length:=oM;subst e;rw[List.take_length]at hF ⊢
   exact q_x ⟨xs,rfl,hF⟩
theorem b9A (I:IMap) {rest:Rst 1} {cap:Nat} (g:Nat) (l:List ByteArray) (hl:0<l.length) (hl2:l.length≤12) (hc:l.length+rest.l.length=cap) (hcm:cap≤maxLen) :
    FnX prog 309 #[.slice (some ⟨g,0,none⟩) l.length cap] I [.blk g 9 (a1x l++rest.l).flatten] (fun u r=>∃m rest2,(∀x,x∈m↔x∈l)∧m.length≤l.length∧u = .slice (some ⟨g,0,none⟩) m.length cap∧r = .blk g 9 (a1x m++rest2).flatten∧Uk 1 rest2∧m.length+rest2.length=cap):=by
 refine enter func309 call309 rfl ntmps309 rfl fun w0=>?_;refine gC 13 (fun h8 p8=>?_) fun h8 p8=>?_
 ·refine go 9 ?_;exact q_x ⟨l,rest.l,fun _=>Iff.rfl,Nat.le_refl _,rfl,rfl,rest.uk,hc⟩
 ·refine go 9 ?_
  refine a0x (α:=Nat) 1 (fun k0=>I)
   (fun k0=>[(0,.slice (some ⟨g,0,none⟩) l.length cap),(3,.int .i64 ((k0:Nat):Int))])
   (fun k0=>[.blk g 9 (a1x l++rest.l).flatten])
   (fun k0=>1≤k0∧k0≤l.length)
   (fun k0=>l.length-k0) ⟨Nat.le_refl _,hl⟩ rfl sb rfl ?_
  intro k0 ⟨hk1,hk2⟩;refine gC 9 (fun h13 p13=>?_) fun h13 p13=>?_
  ·have hkl:k0<l.length:=oM;have hkm:k0-1<l.length:=oM;refine go 6 ?_;refine dG 0 2 ?_;refine a0F 2 rfl rfl (by kernel_rfl) rfl (.refl _) rfl (a0l he rfl rfl rfl (k0) oM oM) ?_;refine a0F 3 rfl rfl (by kernel_rfl) rfl (.refl _) rfl (a5P m0 (Uk.append (a1Z _) rest.uk) he rfl (k0) oM (a5K hkl)) ?_;refine dG 4 2 ?_;refine a0F 6 rfl rfl (by kernel_rfl) rfl (.refl _) rfl (OV.cast (u:=.int .i64 ((k0-1:Nat):Int)) (a1j rfl rfl ⟨oM,oM⟩) (congrArg (Value.int .i64) oM)) ?_;refine a0F 7 rfl rfl (by kernel_rfl) rfl (.refl _) rfl (a0l he rfl rfl rfl (k0-1) oM oM) ?_;refine a0F 8 rfl rfl (by kernel_rfl) rfl (.refl _) rfl (a5P m0 (Uk.append (a1Z _) rest.uk) he rfl (k0-1) oM (a5K hkm)) ?_;refine dG 9 1 ?_;refine gC 2 (fun h25 p25=>?_) fun h25 p25=>?_
   ·have hst:Cpt l l k0 (k0+1):=Cpt.start hk1 hkl p25;refine go 4 ?_;refine o_v rfl (OV.cast (u:=.slice (some ⟨g,k0,none⟩) (l.length-k0) (cap-k0)) (a0L he rfl rfl k0 oM oM) (by rw[c5K,if_neg oM];simp[add_lit])) ?_;refine go 10 ?_
    refine a4d (1) (k0) (l) (fun q k B=>I)
     (fun q k B=>[(0,.slice (some ⟨g,0,none⟩) l.length cap),(3,.int .i64 ((k:Nat):Int)),(4,.slice (some ⟨g,k0,none⟩) (l.length-k0) (cap-k0)),(5,.int .i64 ((q:Nat):Int))])
     (fun q k B=>[.blk g 9 (a1x B++rest.l).flatten])
     (fun q k B=>1≤q∧1≤k∧Cpt l B k (k0+q))
     (fun q k B=>l.length-(k0+q)) ⟨Nat.le_refl _,hk1,hst⟩ rfl sb rfl ?_
    intro q k B ⟨hq,hk,hB⟩;have hBl:=hB.len;have hkp:=hB.kp;have hpl:=hB.pl;refine go 5 ?_;refine o_v rfl (OV.cast (u:=.int .i64 ((l.length-k0:Nat):Int)) (a3M he rfl) rfl) ?_;refine gC 3 (fun h32 p32=>?_) fun h32 p32=>?_
    ·have hpq:k0+q<l.length:=oM;have hpB:k0+q<B.length:=oM;have hpm:k0+q-1<B.length:=oM;have hg1:=hB.get (j:=k0+q) oM hpq hpB;have hg2:=hB.get (j:=k0+q-1) oM oM hpm;refine go 6 ?_;refine dG 0 2 ?_;refine a0F 2 rfl rfl (by kernel_rfl) rfl (.refl _) rfl (a0l he rfl rfl rfl (q) oM oM) ?_;refine a0F 3 rfl rfl (by kernel_rfl) rfl (.refl _) rfl (a5P m0 (Uk.append (a1Z _) rest.uk) he rfl (k0+q) oM (a5K hpB)) ?_;refine dG 4 2 ?_;refine a0F 6 rfl rfl (by kernel_rfl) rfl (.refl _) rfl (OV.cast (u:=.int .i64 ((q-1:Nat):Int)) (a1j rfl rfl ⟨oM,oM⟩) (congrArg (Value.int .i64) oM)) ?_;refine a0F 7 rfl rfl (by kernel_rfl) rfl (.refl _) rfl (a0l he rfl rfl rfl (q-1) oM oM) ?_;refine a0F 8 rfl rfl (by kernel_rfl) rfl (.refl _) rfl (a5P m0 (Uk.append (a1Z _) rest.uk) he rfl (k0+q-1) oM (a5K hpm)) ?_;refine dG 9 1 ?_;refine gC 2 (fun h44 p44=>?_) fun h44 p44=>?_
     ·refine go 6 ?_;refine o_v rfl (a0l he rfl rfl rfl (q) oM oM) ?_;refine o_v rfl (a5P m0 (Uk.append (a1Z _) rest.uk) he rfl (k0+q) oM (a5K hpB)) ?_;refine o_v rfl (a0l he rfl rfl rfl (k) oM oM) ?_;refine go 1 ?_;refine a1U _ (k) (Uk.append (a1Z _) rest.uk) he rfl rfl rfl rfl rfl oM (by simp[a2t];omega) ?_;refine go 15 ?_;exact a2n (q+1) (k+1) (B.set k l[k0+q]) ⟨oM,oM,hB.keep hpq⟩ oM rfl sb (by rw[←hg1,←a8O oM])
     ·refine go 9 ?_;exact a2n (q+1) (k) (B) ⟨oM,hk,hB.skip hpq (by rw[←hg1,←hg2];simpa using h44) oM⟩ oM rfl sb rfl
    ·have hend:k0+q=l.length:=oM;have hdone:=fun x=>(hend▸hB).done x
     refine go 9 ?_;refine o_v rfl (OV.cast (u:=.slice (some ⟨g,k,none⟩) (l.length-k) (cap-k)) (a0L he rfl rfl k oM oM) (by rw[c5K,if_neg oM];simp[add_lit])) ?_;refine go 1 ?_;refine b6y k he he rfl rfl rfl rfl (Uk.append (a1Z _) rest.uk) (fun _=>by rw[Nat.mul_one]) (by simp[a2t];omega) ?_;rw[c4o oM];refine go 6 ?_;refine o_v rfl (a2F he rfl rfl k oM oM) ?_;refine go 10 ?_;refine q_x ⟨B.take k,List.replicate (l.length-k) [.string ⟨#[]⟩]++rest.l,hdone,by rw[List.length_take];omega,?_,rfl,(Uk.rep rfl _).append rest.uk,by rw[List.length_take,List.length_append,List.length_replicate];omega⟩;rw[List.length_take,Nat.min_eq_left oM]
   ·refine go 9 ?_;exact a0w (k0+1) ⟨oM,oM⟩ oM rfl sb rfl
  ·refine go 13 ?_;exact q_x ⟨l,rest.l,fun _=>Iff.rfl,Nat.le_refl _,rfl,rfl,rest.uk,hc⟩
theorem b9z (I:IMap) (v:Value) (l:List ByteArray) (xs:List Value) (hF:Flat I xs l) (hl:0<l.length) (hl2:l.length≤12) :
  FnX prog 309 #[v] I [.row v 9 1 l.length xs] (fun u r=>∃m ys,(∀x,x∈m↔x∈l)∧m.length≤l.length∧Flat I ys m∧r = .row u 9 1 m.length ys):=
 FnX.of_rowF (args:=fun v=>[v]) hF rfl rfl hl fun g cap rest xss hv hC hR hc hcm=>by
  subst hv;obtain rfl:=b8Z hC;refine FnX.backE (k:=1) ((b9A I (rest:=⟨rest,hR⟩) g l hl hl2 hc hcm).weak ?_);rintro u r ⟨m,rest2,hm,hml,rfl,rfl,hR2,hc2⟩;exact⟨a1x m,rest2,m.length,cap,a1Z m,hR2,a2t m,hc2,hcm,rfl,m,_,hm,hml,(a2T I m).flat,rfl⟩
theorem d0V (I:IMap) (v:Value) (ls:List (List ByteArray)) (hv:RdS I v ls) (hl:ls.length≤1000000) (h1:0<ls.flatten.length) (h2:ls.flatten.length≤12) :
    FnX prog 261 #[v] I [] (fun u r=>∃m ys,(∀x,x∈m↔x∈ls.flatten)∧m.length≤ls.flatten.length∧Flat I ys m∧r = .row u 9 1 m.length ys):=by
 refine enter func261 call261 rfl ntmps261 rfl fun w0=>?_;refine go 9 ?_;refine a1X (d0g _ v ls hv oM hl) rfl rfl fun v5 s5 q5=>?_;obtain⟨xs5,rfl,hF5⟩:=q5;refine go 7 ?_;refine a0Q (d2t _ _ ls.flatten xs5 hF5 h1 h2) rfl rfl fun v7 s7 q7=>?_;obtain⟨rfl,m,ys,hpm,hFm,rfl⟩:=q7;rw[←hpm.1];refine go 6 ?_;refine a0Q (b9z _ _ m ys hFm (by rw[hpm.1];exact h1) (by rw[hpm.1];exact h2)) rfl rfl fun v9 s9 q9=>?_;obtain⟨m2,zs,hm2,hl2,hFz,rfl⟩:=q9;refine go 5 ?_;exact q_x ⟨m2,zs,fun x=>(hm2 x).trans (hpm.2 x),by have:=hpm.1;omega,hFz,rfl⟩
theorem c7H (I:IMap) (r:Rep) (S:Option Addr) (d:Nat) (hr:RdS I (.slice S r.options.length d) r.options) (hs:∀e∈r.options,SmE e) :
    FnI prog 191 #[.agg (r.cells (.slice S r.options.length d)).toArray] I (fun u J=>∃ns,RdS J u ns∧a9N r ns):=by
 have hSA:RdA I S r.options:=hr.toA;have hl5:=hr.lenLe;refine enter func191 call191 rfl ntmps191 rfl fun w0=>?_;refine go 4 fun g1=>?_
 refine go 8 ?_;refine cV (a7R _ r S d hr hs) ?_;refine gC 3 (fun h8 p8=>?_) fun h8 p8=>?_
 ·refine go 8 ?_;exact q_i ⟨[],RdS.nil',c0h (by simpa using h8)⟩
 ·have hvr:a0g r=true:=by simpa using h8
  have hvl:=a3g hvr;refine go 4 ?_;refine a0E 88 1 ?_;refine go 13 ?_;refine a0b ?_;refine a0a ?_
  refine a3A ((0:Nat)) (_) ([]) (I) (fun i v3 xs J=>J)
   (fun i v3 xs J=>[(3,v3),(10,.slice S r.options.length d),(11,.int .i64 ((r.options.length:Nat):Int)),(12,.int .i64 ((i:Nat):Int))])
   (fun i v3 xs J=>[.row v3 88 1 i xs])
   (fun i v3 xs J=>i≤r.options.length∧ILe I J∧Flat J xs ((r.options.take i).map a4b))
   (fun i v3 xs J=>r.options.length-i) ⟨Nat.zero_le _,ILe.refl _,.nil⟩ rfl sb rfl ?_
  intro i v3 xs J ⟨hi,hJ,hF⟩;have hSA:=hSA.le hJ;refine gC 6 (fun h13 p13=>?_) fun h13 p13=>?_
  ·have hlt:i<r.options.length:=oM;refine go 6 ?_;obtain⟨b14,o14,w14,e14,c14,r14⟩:=RdA.at_ hSA (i:=i) oM;obtain rfl:=r14;refine go 4 fun g5=>?_
   refine go 8 ?_;refine a0m (d0v _ r.options[i] (hs _ (List.getElem_mem hlt))) rfl rfl fun v18 I18 j18 q18=>?_;have q18s:=q18;obtain⟨A18,c18,rfl,_,_,_⟩:=q18;refine go 2 fun v19=>?_
   refine go 1 ?_;refine a0d ?_;refine a0O he he rfl rfl rfl rfl rfl oM oM rfl fun v20=>?_;refine go 9 ?_;refine a0b ?_;refine a0a ?_;refine a0b ?_;refine a0a ?_;exact a1G (i+1) (_) (_) (_) ⟨oM,hJ.trans j18,by rw[←a0c hlt,List.map_append];exact (hF.le j18).append (.one ⟨_,rfl,q18s⟩)⟩ oM rfl sb rfl
  ·have e:i=r.options.length:=oM;subst e;rw[List.take_length]at hF
   have hnf:=a8A r.options (a5p hvr);refine go 7 ?_;refine a0i (l:=(r.options.map a4b)) rfl (by rw[List.length_map]) (hF) fun Ip jp Rp=>?_;refine go 2 ?_;refine a1X (d0V _ _ (r.options.map a4b) Rp (by rw[List.length_map];omega) oM oM) rfl rfl fun v23 s23 q23=>?_;obtain⟨m,ys,hm,hml,hFm,rfl⟩:=q23;refine a0i (l:=m) rfl rfl (hFm) fun Iq jq Rq=>?_;refine go 5 ?_;exact q_i ⟨m,Rq,b4O hvr hm hml⟩
end Go.Proofs.YtgmkjpafapgccaaGreat
namespace Go.Proofs.YtgmkjpafapgccaaGreat
open Go Go.Sx Tryz
set_option linter.all false
set_option maxRecDepth 20000
set_option maxHeartbeats 4000000
theorem c3S (I:IMap) (v:Value) (l:List Rep) (hv:RdS I v l) (hl:l.length≤1000000) (hsl:∀r∈l,∀e∈r.options,SmE e) (most:Int) (hmo:most≤4096) :
    FnV prog 36 #[v,.int .i64 most] I (.int .i64 ((a5s most 1 l:Nat):Int)):=by
 obtain⟨A,c0,rfl,hA,hc,hm⟩:=hv;refine enter func36 call36 rfl ntmps36 rfl fun w0=>?_;refine go 17 ?_
 refine a0B (0) (1) (fun i n=>I)
  (fun i n=>[(0,.slice A l.length c0),(1,.int .i64 most),(5,.int .i64 ((n:Nat):Int)),(6,.int .i64 ((i:Nat):Int))])
  (fun i n=>[])
  (fun i n=>i≤l.length∧n≤1000000∧a5s most 1 l=a5s most n (l.drop i))
  (fun i n=>l.length-i) ⟨Nat.zero_le _,oM,rfl⟩ rfl sb rfl ?_
 intro i n ⟨hi,hn,hw⟩;refine gS 8 11 (fun h11 p11=>?_) fun h11 p11=>?_
 ·refine gC 6 (fun h15 p15=>?_) fun h15 p15=>?_
  ·have hlt:i<l.length:=oM;have hnm:((n:Nat):Int)≤most:=oM;have hc5:=a6m l[i];have hcn:=b0i l[i];have hpn:n * max 1 (chs l[i]).toNat≤4096 * 5:=Nat.mul_le_mul oM oM;have hpi:(n:Int) * ((max 1 (chs l[i]).toNat:Nat):Int)=((n * max 1 (chs l[i]).toNat:Nat):Int):=(Int.natCast_mul _ _).symm
   generalize hmx:max 1 (chs l[i]).toNat=mx at hpn hpi
   refine go 8 ?_;obtain⟨b21,o21,w21,e21,c21,r21⟩:=RdA.at_ hA (i:=i) oM;obtain⟨q21,rfl,S21,d21,rfl,hS21,hd21,hm21⟩:=r21;refine go 3 ?_;refine cV (a9c _ l[i] S21 d21 ⟨_,_,rfl,hS21,hd21,hm21⟩ (hsl _ (List.getElem_mem hlt))) ?_;refine o_v rfl (OV.cast (u:=.int .i64 ((mx:Nat):Int)) (d2S rfl rfl) (congrArg (Value.int .i64) (by split<;>omega))) ?_;refine o_v rfl (OV.cast (u:=.int .i64 ((n * mx:Nat):Int)) (b5E rfl rfl ⟨oM,oM⟩) (congrArg (Value.int .i64) (by rw[hpi]))) ?_;refine go 10 ?_;exact a0o (i+1) (n * mx) ⟨oM,oM,by rw[hw,c4X hlt oM,hmx]⟩ oM rfl sb rfl
  ·refine go 13 ?_;exact q_v (congrArg (Value.int .i64) (by rw[hw,c8y oM]))
 ·refine go 20 ?_;obtain rfl:i=l.length:=oM;exact q_v (congrArg (Value.int .i64) (by rw[hw,List.drop_length];rfl))
theorem c7B (I:IMap) (v:Value) (l:List Rep) (hv:RdS I v l) (most:Int) (hmo:most≤4096) :
    FnV prog 62 #[v,.int .i64 most] I (.bool (b9K l most)):=by
 refine enter func62 call62 rfl ntmps62 rfl fun w0=>?_;refine go 9 ?_;refine cV (c7A _ v l hv 12) ?_;refine gS 1 7 (fun h7 p7=>?_) fun h7 p7=>?_
 ·refine go 3 ?_;refine a0n rfl rfl h7 (a0y (c3S _ v l hv (by have:=(b6d h7).2;omega) (b6d h7).1 most hmo) rfl rfl ?_);refine go 8 ?_;exact q_v (congrArg Value.bool (by simp only[b9K,h7,bS]))
 ·refine go 11 ?_;exact q_v (congrArg Value.bool (by simp only[b9K,h7,bS]))
end Go.Proofs.YtgmkjpafapgccaaGreat
namespace Go.Proofs.YtgmkjpafapgccaaGreat
open Go Go.Sx Tryz
set_option linter.all false
set_option maxRecDepth 20000
set_option maxHeartbeats 4000000
instance:Has (a2j prog 3) ([.int .i64 0],1,8):=hk
instance:Has (a6J prog 196) (3,1):=hk
instance:Has (prog.underlying 196) (.slice 3):=hk
theorem a9y (I:IMap) (g cap:Nat) (F:List Nat) (rest:List (List Value)) (hR:Uk 1 rest) (hF:Fst F) (i:Nat) (hi:i<F.length) :
    FnG prog 102 #[.slice (some ⟨g,0,none⟩) F.length cap,.int .i64 ((i:Nat):Int)] I (.blk g 3 (b0J F++rest).flatten) (fun u J r=>∃G,u = .int .i64 ((rt F i:Nat):Int)∧r = .blk g 3 (b0J G++rest).flatten∧G.length=F.length∧Fst G∧∀q,rt G q=rt F q):=by
 refine enter func102 call102 rfl ntmps102 rfl fun w0=>?_;refine go 7 ?_
 refine a0B (i) (F) (fun j G=>I)
  (fun j G=>[(0,.slice (some ⟨g,0,none⟩) F.length cap),(1,.int .i64 ((j:Nat):Int))])
  (fun j G=>[.blk g 3 (b0J G++rest).flatten])
  (fun j G=>j<F.length∧G.length=F.length∧Fst G∧(∀q,rt G q=rt F q)∧rt F j=rt F i)
  (fun j G=>j) ⟨hi,rfl,hF,fun _=>rfl,rfl⟩ rfl sb rfl ?_
 intro j G ⟨hj,hG,hFG,hr,hje0⟩;have hjG:j<G.length:=oM;have hup:up G j=G[j]:=d2J hjG;have hle:G[j]≤j:=by rw[←hup];exact hFG j
 have hgG:G[j]<G.length:=oM;have hup2:up G (up G j)=G[G[j]]:=by rw[hup];exact d2J hgG
 have hle2:G[G[j]]≤G[j]:=by have:=hFG G[j];rw[d2J hgG]at this;exact this
 refine go 5 ?_;refine o_v rfl (a0l he rfl rfl rfl (j) oM oM) ?_;refine o_v rfl (a5P m0 (Uk.append (a4W _) hR) he rfl (j) oM (b3v hjG)) ?_;refine gC 4 (fun h10 p10=>?_) fun h10 p10=>?_
 ·have hjne:G[j]<j:=oM;refine go 10 ?_;refine o_v rfl (a0l he rfl rfl rfl (j) oM oM) ?_;refine o_v rfl (a5P m0 (Uk.append (a4W _) hR) he rfl (j) oM (b3v hjG)) ?_;refine o_v rfl (a0l he rfl rfl rfl (G[j]) oM oM) ?_;refine o_v rfl (a5P m0 (Uk.append (a4W _) hR) he rfl (G[j]) oM (b3v hgG)) ?_;refine o_v rfl (a0l he rfl rfl rfl (j) oM oM) ?_;refine go 1 ?_;refine a1U _ (j) (Uk.append (a4W _) hR) he rfl rfl rfl rfl rfl oM (by rw[List.length_append,a4M];omega) ?_;refine a3S (b0J (G.set j G[G[j]])++rest).flatten (by rw[b8t hjG]) ?_;refine go 5 ?_;refine o_v rfl (a0l he rfl rfl rfl (j) oM oM) ?_;refine o_v rfl (OV.cast (u:=.int .i64 ((G[G[j]]:Nat):Int)) (a5P m0 (Uk.append (a4W _) hR) he rfl (j) oM (b3v (by simp;omega))) (congrArg (Value.int .i64) (by simp))) ?_;refine go 4 ?_;exact a0o (G[G[j]]) (G.set j G[G[j]]) ⟨oM,by simp[hG],hup2▸(hFG.half hjG).1,fun q=>by rw[←hup2,(hFG.half hjG).2 q,hr q],by rw[←hje0,←hr,←hr j,←hup2,hFG.rt_up,hFG.rt_up]⟩ oM rfl sb rfl
 ·have hje:rt F i=j:=by rw[←hje0,←hr j];exact a3s oM
  refine go 13 ?_;exact q_g ⟨G,by rw[hje],rfl,hG,hFG,hr⟩
theorem c6H (I:IMap) (g cap:Nat) (F:List Nat) (rest:List (List Value)) (hR:Uk 1 rest) (hF:Fst F) (a b:Nat) (ha:a<F.length) (hb:b<F.length) :
    FnG prog 192 #[.slice (some ⟨g,0,none⟩) F.length cap,.int .i64 ((a:Nat):Int),.int .i64 ((b:Nat):Int)] I (.blk g 3 (b0J F++rest).flatten) (fun u J r=>∃G,u = .tuple #[]∧r = .blk g 3 (b0J G++rest).flatten∧G.length=F.length∧Fst G∧∀q,rt G q=if rt F q=rt F a∨rt F q=rt F b then min (rt F a) (rt F b) else rt F q):=by
 refine enter func192 call192 rfl ntmps192 rfl fun w0=>?_;refine go 5 ?_;refine a1m (a9y _ g cap F rest hR hF a ha) rfl rfl fun v10 I10 s10 j10 q10=>?_;obtain⟨G,rfl,rfl,hG,hFG,hr⟩:=q10;refine go 3 ?_;refine a1m (hG▸a9y _ g cap G rest hR hFG b oM) rfl rfl fun v13 I13 s13 j13 q13=>?_;obtain⟨G2,rfl,rfl,hG2,hFG2,hr2⟩:=q13;have hra:=d2d F a;have hrb:=d2d F b;rw[hr b];have hmx:max (rt F a) (rt F b)<G2.length:=oM;refine go 8 ?_;refine o_v rfl (OV.cast (u:=.int .i64 ((max (rt F a) (rt F b):Nat):Int)) (d2S rfl rfl) (congrArg (Value.int .i64) (by split<;>omega))) ?_;refine go 2 ?_;refine o_v rfl (OV.cast (u:=.int .i64 ((min (rt F a) (rt F b):Nat):Int)) (d5S rfl rfl) (congrArg (Value.int .i64) (by split<;>omega))) ?_;refine o_v rfl (a0l he rfl rfl rfl (max (rt F a) (rt F b)) oM oM) ?_;refine go 1 ?_;refine a1U _ (max (rt F a) (rt F b)) (Uk.append (a4W _) hR) he rfl rfl rfl rfl rfl oM (by rw[List.length_append,a4M];omega) ?_;refine a3S (b0J (G2.set (max (rt F a) (rt F b)) (min (rt F a) (rt F b)))++rest).flatten (by rw[b8t hmx]) ?_;refine go 2 ?_;have hid:∀q,rt G2 q=rt F q:=fun q=>(hr2 q).trans (hr q)
 obtain⟨m1,m2⟩:=hFG2.meet (a:=rt F a) (b:=rt F b) (by rw[hid,b6T]) (by rw[hid,b6T]) oM oM;exact q_g ⟨_,rfl,rfl,by simp;omega,m1,fun q=>by rw[m2 q,hid q]⟩
theorem c0c (I:IMap) (v:Value) (l:List Rep) (hv:RdS I v l) (hl:l.length≤1000000) (hsl:∀r∈l,∀e∈r.options,SmE e)  :
    FnH prog 101 #[v] I [] (fun u J H2=>∃w m F kvs fm,u = .tuple #[w,.map (some m)]∧H2=[.row w 3 1 F.length (b0J F).flatten,.mp m (a1A Value.string kvs)]∧Lkd l l.length (fun k z=>∃h:k<l.length,nm l[k] z) F fm∧(∀z,a4h kvs z=(fm z).map fun (q:Nat)=>Value.int .i64 (q:Int))):=by
 have hv0:=hv;obtain⟨A,c0,rfl,hA,hc,hm⟩:=hv;refine enter func101 call101 rfl ntmps101 rfl fun w0=>?_;refine go 8 ?_;refine a0E 3 1 ?_;refine go 6 ?_;refine a5i (Value.string) he rfl fun r11=>?_;refine go 12 ?_;refine a0b ?_
 refine c9S ((0:Nat)) (_) ([]) ([]) ((fun _=>none)) (I) (fun i v4 F kvs fm J=>J)
  (fun i v4 F kvs fm J=>[(0,.slice A l.length c0),(5,.map (some r11)),(13,.int .i64 ((l.length:Nat):Int)),(14,.int .i64 ((i:Nat):Int)),(4,v4)])
  (fun i v4 F kvs fm J=>[.row v4 3 1 F.length (b0J F).flatten,.mp r11 (a1A Value.string kvs)])
  (fun i v4 F kvs fm J=>i≤l.length∧ILe I J∧Lkd l i (fun k z=>k<i∧∃h:k<l.length,nm l[k] z) F fm∧(∀z,a4h kvs z=(fm z).map fun (q:Nat)=>Value.int .i64 (q:Int)))
  (fun i v4 F kvs fm J=>l.length-i) ⟨Nat.zero_le _,ILe.refl _,Lkd.start.congr (fun k z h=>absurd h.1 (Nat.not_lt_zero k)),fun z=>rfl⟩ rfl sb rfl ?_
 intro i v4 F kvs fm J ⟨hi,hJ,hK,hM⟩;have hlF:=hK.len;have hv0:=hv0.le hJ;have hA:=hA.le hJ;refine gC 6 (fun h15 p15=>?_) fun h15 p15=>?_
 ·have hlt:i<l.length:=oM;refine go 16 fun v19=>?_
  refine go 1 ?_;refine a0b ?_;refine a0O he he rfl rfl rfl rfl rfl oM oM rfl fun v20=>?_;refine go 5 ?_;refine a9J (ys:=(b0J (F++[i])).flatten) (show _=_ from c2W F i) ?_;refine a6O (a4W (F++[i])) (by simp[a4M]) (fun h0 _=>oM) fun g21 cap21 rest21 hv21 hR21 hcap21 hmax21=>?_;subst hv21;refine go 2 ?_;obtain⟨b23,o23,w23,e23,c23,r23⟩:=RdA.at_ hA (i:=i) oM;obtain⟨q23,rfl,S23,d23,rfl,hS23,hd23,hm23⟩:=r23;refine go 3 ?_;refine a0m (c7H _ l[i] S23 d23 ⟨_,_,rfl,hS23,hd23,hm23⟩ (hsl _ (List.getElem_mem hlt))) rfl rfl fun v25 I25 j25 q25=>?_
  try have hv0:=hv0.le j25
  try have hA:=hA.le j25
  try have hNA:=hNA.le j25
  obtain⟨ns,hns,hno⟩:=q25;obtain⟨NA,nc,rfl,hNA,_,_⟩:=hns;have hnl:=hno.2;refine go 5 ?_;refine a0b ?_;refine a0a ?_
  refine a5t ((0:Nat)) ((F++[i])) (kvs) (fm) (_) (fun j G kvs2 fm2 J2=>J2)
   (fun j G kvs2 fm2 J2=>[(0,.slice A l.length c0),(5,.map (some r11)),(13,.int .i64 ((l.length:Nat):Int)),(14,.int .i64 ((i:Nat):Int)),(4,.slice (some ⟨g21,0,none⟩) (F.length+1) cap21),(6,.int .i64 ((i:Nat):Int)),(25,.slice NA ns.length nc),(26,.int .i64 ((ns.length:Nat):Int)),(27,.int .i64 ((j:Nat):Int))])
   (fun j G kvs2 fm2 J2=>[.blk g21 3 (b0J G++rest21).flatten,.mp r11 (a1A Value.string kvs2)])
   (fun j G kvs2 fm2 J2=>j≤ns.length∧ILe I25 J2∧Lkd l (i+1) (fun k z=>(k<i∧∃h:k<l.length,nm l[k] z)∨(k=i∧z∈ns.take j)) G fm2∧(∀z,a4h kvs2 z=(fm2 z).map fun (q:Nat)=>Value.int .i64 (q:Int)))
   (fun j G kvs2 fm2 J2=>ns.length-j) ⟨Nat.zero_le _,ILe.refl _,(hK.push hlt).congr (fun k z h=>h.elim id fun h=>by simp at h),hM⟩ rfl sb rfl ?_
  intro j G kvs2 fm2 J2 ⟨hj,hJ2,hK2,hM2⟩;have hGl:G.length=F.length+1:=by rw[hK2.len,hlF]
  have hG1:=hK2.len;have hv0:=hv0.le hJ2;have hA:=hA.le hJ2;have hNA:=hNA.le hJ2;refine gC 6 (fun h28 p28=>?_) fun h28 p28=>?_
  ·have hlj:j<ns.length:=oM;refine go 6 ?_;obtain⟨b29,o29,w29,e29,c29,r29⟩:=RdA.at_ hNA (i:=j) oM;obtain rfl:=r29;refine go 9 ?_;refine o_v rfl (a9g m1 (a0H he) he he (ns[j]) rfl rfl rfl rfl) ?_;refine gC 12 (fun h37 p37=>?_) fun h37 p37=>?_
   ·obtain⟨q,hq⟩:∃q,fm2 ns[j]=some q:=by
      rw[hM2]at h37
      cases hq:fm2 ns[j]with
      |none=>rw[hq]at h37;cases h37
      |some q=>exact⟨q,rfl⟩
    have hmg:(a4h kvs2 ns[j]).getD (.int .i64 0) = .int .i64 (q:Int):=by rw[hM2,hq];rfl
    rw[hmg];have hq1:=(hK2.own _ q hq).1;refine go 5 ?_;refine a1m (hGl▸c6H _ g21 cap21 G rest21 hR21 hK2.fst q i oM oM) rfl rfl fun v41 I41 s41 j41 q41=>?_
    try have hv0:=hv0.le j41
    try have hA:=hA.le j41
    try have hNA:=hNA.le j41
    obtain⟨G2,rfl,rfl,hG2,hFG2,hr2⟩:=q41;refine go 8 ?_;exact a2Y (j+1) (G2) (kvs2) (fm2) (_) ⟨oM,hJ2.trans j41,(hK2.hit oM ⟨hlt,(d1k hno _).1 (List.getElem_mem hlj)⟩ hq hFG2 (hG2.trans hGl.symm) hr2).congr fun k z h=>b8k hlj h,hM2⟩ oM rfl sb rfl
   ·have hq0:fm2 ns[j]=none:=by
      rw[hM2]at h37
      cases hq:fm2 ns[j]with
      |none=>rfl
      |some q=>rw[hq]at h37;cases h37
    refine go 5 ?_;refine a0b ?_;refine a2S (a4I kvs2 ns[j] (.int .i64 (i:Int))) (a0H he) he (ns[j]) rfl rfl rfl (rfl) ?_;refine go 8 ?_;refine a0b ?_;exact a2Y (j+1) (G) ((a4I kvs2 ns[j] (.int .i64 (i:Int)))) ((fun y=>if ns[j]=y then some i else fm2 y)) (_) ⟨oM,hJ2,(hK2.new oM ⟨hlt,(d1k hno _).1 (List.getElem_mem hlj)⟩ hq0).congr fun k z h=>b8k hlj h,d1f hM2 ns[j] i⟩ oM rfl sb rfl
  ·obtain rfl:j=ns.length:=oM;rw[List.take_length]at hK2
   refine a2e (a4W G) hR21 (by rw[a4M];omega) hcap21 hmax21 ?_;refine go 11 ?_;exact d1W (i+1) (_) (G) (kvs2) (fm2) (_) ⟨oM,hJ.trans (j25.trans hJ2),hK2.congr (fun k z h=>d1e hlt hno h),hM2⟩ oM rfl sb (by simp only[hGl])
 ·obtain rfl:i=l.length:=oM;refine go 15 ?_;exact a2g (fun _ m=>m) ⟨_,_,F,kvs,fm,rfl,rfl,hK.congr (fun k z h=>⟨h.1,h⟩),hM⟩
end Go.Proofs.YtgmkjpafapgccaaGreat
namespace Go.Proofs.YtgmkjpafapgccaaGreat
open Go Go.Sx Tryz
set_option linter.all false
set_option maxRecDepth 20000
set_option maxHeartbeats 4000000
instance:Has (a2j prog 81) ([.int .i64 0,.int .i64 0],2,16):=hk
instance:Has (a6J prog 236) (81,2):=hk
instance:Has (a6J prog 25) (27,3):=hk
instance:Has (a6J prog 414) (331,1):=hk
instance:Has (a1k prog 239 0) (0,true,6):=hk
instance:Has (a1k prog 27 0) (0,false,1):=hk
instance:Has (a1k prog 27 1) (1,false,1):=hk
instance:Has (a1k prog 27 2) (2,false,1):=hk
instance : Has (b0H prog 239 "bogie/formula.apply") 370 := hk
instance : Has (b0H prog 239 "bogie/formula.choose") 371 := hk
instance : Has (b0H prog 239 "bogie/formula.letter") 372 := hk
instance : Has (b0H prog 239 "bogie/formula.number") 373 := hk
instance:Has (plK prog 239) [(0,6)]:=hk
instance:Has (plK prog 81) [(0,1),(1,1)]:=hk
theorem T.stk_239:b1i prog 239=true:=by kernel_rfl
instance:Has (tyK prog 236) (false,1):=hk
instance:Has (tyK prog 25) (false,1):=hk
instance:Has (tyK prog 27) (true,3):=hk
instance:Has (tyK prog 331) (false,1):=hk
instance:Has (prog.underlying 236) (.slice 81):=hk
instance T.und_25:Has (prog.underlying 25) (.slice 27):=hk
instance:Has (prog.underlying 331) (.int .i64):=hk
instance:Has (prog.underlying 414) (.slice 331):=hk
instance:Has (a1o prog 236) [.slice none 0 0]:=hk
instance:Has (a1o prog 239) [.int .i64 0,.int .i64 0,.int .i64 0,.int .i64 0,.int .i64 0,.int .i64 0]:=hk
instance:Has (a1o prog 27) [.int .i64 0,.int .i64 0,.slice none 0 0]:=hk
instance:Has (a1o prog 331) [.int .i64 0]:=hk
instance:Has (a1o prog 81) [.int .i64 0,.int .i64 0]:=hk
theorem b0D (I:IMap) (x:Ivl) :
    FnV prog 251 #[.agg x.cells.toArray] I (.bool (a2v x)):=by
 refine enter func251 call251 rfl ntmps251 rfl fun w0=>?_;refine go 4 fun g1=>?_
 refine gS 9 6 (fun h6 p6=>?_) fun h6 p6=>?_
 ·refine gS 7 13 (fun h13 p13=>?_) fun h13 p13=>?_
  ·refine go 9 ?_;exact q_v (congrArg Value.bool (by simp only[a2v,h6,h13,bS]))
  ·refine go 9 ?_;exact q_v (congrArg Value.bool (by simp only[a2v,h6,h13,bS]))
 ·refine go 16 ?_;exact q_v (congrArg Value.bool (by simp only[a2v,h6,bS]))
theorem d4t (I:IMap) (n:Int) :
    FnV prog 278 #[.int .i64 (n)] I (.int .i64 (b2u n)):=by
 refine enter func278 call278 rfl ntmps278 rfl fun w0=>?_;refine go 8 ?_;refine o_v rfl (OV.cast (u:=.int .i64 (min n (1000000000000:Int))) (a8h rfl rfl) (congrArg (Value.int .i64) oM)) ?_;refine o_v rfl (OV.cast (u:=.int .i64 (b2u n)) (a5L rfl rfl) (congrArg (Value.int .i64) (by unfold b2u;omega))) ?_;refine go 5 ?_;exact q_v rfl
theorem d0S (I:IMap) (a b:Int) (ha : -(1000000000000:Int)≤a∧a≤(1000000000000:Int)) (hb : -(1000000000000:Int)≤b∧b≤(1000000000000:Int)) :
    FnV prog 215 #[.int .i64 (a),.int .i64 (b)] I (.int .i64 (b2u (a+b))):=by
 refine enter func215 call215 rfl ntmps215 rfl fun w0=>?_;refine go 11 ?_;refine cV (d4t _ _) ?_;refine go 5 ?_;exact q_v rfl
theorem c6u (I:IMap) (a b:Int) (ha : -(1000000000000:Int)≤a∧a≤(1000000000000:Int)) (hb : -(1000000000000:Int)≤b∧b≤(1000000000000:Int)) :
    FnV prog 378 #[.int .i64 (a),.int .i64 (b)] I (.int .i64 (b2u (a-b))):=by
 refine enter func378 call378 rfl ntmps378 rfl fun w0=>?_;refine go 11 ?_;refine cV (d4t _ _) ?_;refine go 5 ?_;exact q_v rfl
theorem c1n (I:IMap) (x y:Nat) (hx:x<18446744073709551616) (hy:y<18446744073709551616) :
    FnV prog 382 #[.int .u64 ((x:Nat):Int),.int .u64 ((y:Nat):Int)] I (.tuple #[.int .u64 ((x * y / 18446744073709551616:Nat):Int),.int .u64 ((x * y % 18446744073709551616:Nat):Int)]):=by
 obtain⟨bd,bt,bw,hhi⟩:=Lib.mul64_hi x y hx hy;have ba:=Lib.half_mul_le (a:=x / 4294967296) (b:=y / 4294967296) oM oM;have bb:=Lib.half_mul_le (a:=x / 4294967296) (b:=y % 4294967296) oM oM;have bc:=Lib.half_mul_le (a:=x % 4294967296) (b:=y / 4294967296) oM oM;refine enter func382 call382 rfl ntmps382 rfl fun w0=>?_;refine go 9 ?_;refine o_v rfl (c4Q hx rfl) ?_;refine go 6 ?_;refine o_v rfl (c4N rfl) ?_;refine go 6 ?_;refine o_v rfl (c4Q hy rfl) ?_;refine go 6 ?_;refine o_v rfl (c4N rfl) ?_;refine go 7 ?_;refine o_v rfl (b9j rfl rfl bd) ?_;refine go 7 ?_;refine o_v rfl (b9j rfl rfl oM) ?_;refine go 1 ?_;refine o_v rfl (c4N rfl) ?_;refine o_v rfl (b9f rfl rfl bt) ?_;refine go 6 ?_;refine o_v rfl (c4Q bt rfl) ?_;refine go 6 ?_;refine o_v rfl (c4N rfl) ?_;refine go 8 ?_;refine o_v rfl (b9j rfl rfl oM) ?_;refine o_v rfl (b9f rfl rfl bw) ?_;refine go 7 ?_;refine o_v rfl (b9j rfl rfl oM) ?_;refine go 1 ?_;refine o_v rfl (b9f rfl rfl oM) ?_;refine go 1 ?_;refine o_v rfl (c4N rfl) ?_;refine o_v rfl (b9f rfl rfl oM) ?_;refine go 7 ?_;refine o_v rfl (d5T rfl rfl) ?_;refine go 5 ?_;exact q_v (by rw[hhi])
theorem c6v (I:IMap) (a b:Int) (ha : -(1000000000000:Int)≤a∧a≤(1000000000000:Int)) (hb : -(1000000000000:Int)≤b∧b≤(1000000000000:Int)) :
    FnV prog 379 #[.int .i64 (a),.int .i64 (b)] I (.int .i64 (b2u (a * b))):=by
 refine enter func379 call379 rfl ntmps379 rfl fun w0=>?_;refine go 9 ?_;refine o_v rfl (d2T rfl ⟨oM,oM⟩) ?_;refine o_v rfl (OV.cast (u:=.int .i64 (((a.natAbs:Nat):Int))) (a5L rfl rfl) (congrArg (Value.int .i64) oM)) ?_;refine o_v rfl (a2b he he rfl (m:=((a.natAbs:Nat):Int)) (wrap_u64 _ oM oM)) ?_;refine go 2 ?_;refine o_v rfl (d2T rfl ⟨oM,oM⟩) ?_;refine o_v rfl (OV.cast (u:=.int .i64 (((b.natAbs:Nat):Int))) (a5L rfl rfl) (congrArg (Value.int .i64) oM)) ?_;refine o_v rfl (a2b he he rfl (m:=((b.natAbs:Nat):Int)) (wrap_u64 _ oM oM)) ?_;refine go 1 ?_;refine cV (c1n _ a.natAbs b.natAbs oM oM) ?_;refine go 13 ?_;refine a1V (I':=I) (L':=[(0,.int .i64 (a)),(1,.int .i64 (b)),(7,.int .i64 (min ((a.natAbs * b.natAbs:Nat):Int) (1000000000000:Int)))]) (H':=[]) ?_ ?_
 ·refine gS 5 24 (fun h24 p24=>?_) fun h24 p24=>?_
  ·refine gC 5 (fun h27 p27=>?_) fun h27 p27=>?_
   ·refine go 2 ?_;refine o_v rfl (a2b he he rfl (m:=((a.natAbs * b.natAbs % 18446744073709551616:Nat):Int)) (by rw[IntKind.wrap_i64];omega)) ?_;refine go 3 ?_;exact a0r ⟨rfl,rfl,(congrArg (fun z=>some (Value.int .i64 z)) oM),trivial⟩ rfl rfl
   ·refine go 2 ?_;exact a0r ⟨rfl,rfl,(congrArg (fun z=>some (Value.int .i64 z)) oM),trivial⟩ rfl rfl
  ·refine go 8 ?_;exact a0r ⟨rfl,rfl,(congrArg (fun z=>some (Value.int .i64 z)) oM),trivial⟩ rfl rfl
 ·refine go 7 ?_;refine o_v rfl (c4J he rfl rfl) ?_;refine gC 2 (fun h34 p34=>?_) fun h34 p34=>?_
  ·refine go 3 ?_;refine o_v rfl (d2T rfl ⟨oM,oM⟩) ?_;refine go 6 ?_;exact q_v (congrArg (Value.int .i64) (d2o h34))
  ·refine go 10 ?_;exact q_v (congrArg (Value.int .i64) (d2p h34))
theorem d5F (I:IMap) (v:Value) (l:List Int) (hv:RdS I v l) (h0:0<l.length) :
    FnV prog 319 #[v] I (.int .i64 (b6t l (l.length-1))):=by
 obtain⟨A,c0,rfl,hA,hc,hm⟩:=hv;refine enter func319 call319 rfl ntmps319 rfl fun w0=>?_;refine gC 13 (fun h7 p7=>?_) fun h7 p7=>?_
 ·exfalso;omega
 ·refine go 5 ?_;obtain⟨b10,o10,w10,e10,c10,r10⟩:=RdA.at_ hA (i:=0) oM;obtain rfl:=r10;refine o_v rfl (a0l he rfl rfl e10 (0) oM oM) ?_;refine go 11 ?_
  refine a0x (α:=Nat) 0 (fun i=>I)
   (fun i=>[(0,.slice A l.length c0),(3,.int .i64 (b6t l i)),(4,.int .i64 ((i+1:Nat):Int))])
   (fun i=>[])
   (fun i=>i<l.length)
   (fun i=>l.length-i) h0 rfl ⟨rfl,by rw[c2U h0];rfl,rfl,trivial⟩ rfl ?_
  intro i hx;refine gC 9 (fun h15 p15=>?_) fun h15 p15=>?_
  ·refine go 8 ?_;obtain⟨b21,o21,w21,e21,c21,r21⟩:=RdA.at_ hA (i:=i+1) oM;obtain rfl:=r21;refine o_v rfl (a0l he rfl rfl e21 (i+1) oM oM) ?_;refine go 1 ?_;refine o_v rfl (OV.cast (u:=.int .i64 (b6t l (i+1))) (a8h rfl rfl) (congrArg (Value.int .i64) (c2T oM))) ?_;refine go 10 ?_;exact a0w (i+1) oM oM rfl sb rfl
  ·obtain rfl:i=l.length-1:=oM;refine go 13 ?_;exact q_v rfl
theorem d5E (I:IMap) (v:Value) (l:List Int) (hv:RdS I v l) (h0:0<l.length) :
    FnV prog 320 #[v] I (.int .i64 (b6s l (l.length-1))):=by
 obtain⟨A,c0,rfl,hA,hc,hm⟩:=hv;refine enter func320 call320 rfl ntmps320 rfl fun w0=>?_;refine gC 13 (fun h7 p7=>?_) fun h7 p7=>?_
 ·exfalso;omega
 ·refine go 5 ?_;obtain⟨b10,o10,w10,e10,c10,r10⟩:=RdA.at_ hA (i:=0) oM;obtain rfl:=r10;refine o_v rfl (a0l he rfl rfl e10 (0) oM oM) ?_;refine go 11 ?_
  refine a0x (α:=Nat) 0 (fun i=>I)
   (fun i=>[(0,.slice A l.length c0),(3,.int .i64 (b6s l i)),(4,.int .i64 ((i+1:Nat):Int))])
   (fun i=>[])
   (fun i=>i<l.length)
   (fun i=>l.length-i) h0 rfl ⟨rfl,by rw[c2P h0];rfl,rfl,trivial⟩ rfl ?_
  intro i hx;refine gC 9 (fun h15 p15=>?_) fun h15 p15=>?_
  ·refine go 8 ?_;obtain⟨b21,o21,w21,e21,c21,r21⟩:=RdA.at_ hA (i:=i+1) oM;obtain rfl:=r21;refine o_v rfl (a0l he rfl rfl e21 (i+1) oM oM) ?_;refine go 1 ?_;refine o_v rfl (OV.cast (u:=.int .i64 (b6s l (i+1))) (a5L rfl rfl) (congrArg (Value.int .i64) (c2O oM))) ?_;refine go 10 ?_;exact a0w (i+1) oM oM rfl sb rfl
  ·obtain rfl:i=l.length-1:=oM;refine go 13 ?_;exact q_v rfl
theorem b8e (I:IMap) (v:Value) (l:List Int) (hv:RdS I v l) (h0:0<l.length) :
    FnV prog 277 #[v] I (.agg #[.int .i64 (b6t l (l.length-1)),.int .i64 (b6s l (l.length-1))]):=by
 refine enter func277 call277 rfl ntmps277 rfl fun w0=>?_;refine go 4 fun g2=>?_
 refine go 6 ?_;refine cV (d5F _ _ l hv h0) ?_;refine go 2 ?_;refine cV (d5E _ _ l hv h0) ?_;refine go 7 ?_;exact q_v rfl
theorem c2E (I:IMap) (a b:Ivl) (g:FuncId) (f:Int→Int→Int) (hf:∀x y,(-(1000000000000:Int)≤x∧x≤(1000000000000:Int))→(-(1000000000000:Int)≤y∧y≤(1000000000000:Int))→FnV prog g #[.int .i64 (x),.int .i64 (y)] I (.int .i64 (f x y))) :
    FnV prog 214 #[.agg a.cells.toArray,.agg b.cells.toArray,.func (.func g) #[] #[]] I (.agg (b1x f a b).cells.toArray):=by
 refine enter func214 call214 rfl ntmps214 rfl fun w0=>?_;refine go 4 fun g3=>?_
 refine go 2 fun g4=>?_
 refine go 2 fun g6=>?_
 refine go 4 ?_;refine a1V (I':=I) (L':=[(2,.func (.func g) #[] #[]),(3,.pointer (some ⟨g3,0,none⟩)),(4,.pointer (some ⟨g4,0,none⟩)),(6,.pointer (some ⟨g6,0,none⟩)),(18,.bool (!a2v a || !a2v b))]) (H':=[.blk g3 81 a.cells,.blk g4 81 b.cells,.blk g6 81 [.int .i64 (0),.int .i64 (0)]]) ?_ ?_
 ·refine go 3 ?_;refine cV (b0D _ a) ?_;refine gS 2 14 (fun h14 p14=>?_) fun h14 p14=>?_
  ·refine go 6 ?_;refine a0b ?_;refine a0d ?_;exact a0r ⟨rfl,rfl,rfl,rfl,(bB (by simp only[h14,bS])),trivial⟩ rfl rfl
  ·refine go 2 ?_;refine a0n rfl rfl h14 (a0y (b0D _ b) rfl rfl ?_);refine go 4 ?_;refine a0b ?_;refine a0d ?_;exact a0r ⟨rfl,rfl,rfl,rfl,(bB (by simp only[h14,bS])),trivial⟩ rfl rfl
 ·refine gC 0 (fun h18 p18=>?_) fun h18 p18=>?_
  ·refine go 4 ?_;refine a0d ?_;refine go 6 ?_;exact q_v (by rw[c9O h18];rfl)
  ·obtain⟨⟨ha1,ha2⟩,hb1,hb2⟩:=c9N h18;refine go 4 ?_;refine dG 0 12 ?_;refine go 8 ?_;refine cV (hf _ _ ha1 hb1) ?_;refine go 4 ?_;refine cV (hf _ _ ha1 hb2) ?_;refine go 4 ?_;refine cV (hf _ _ ha2 hb1) ?_;refine go 4 ?_;refine cV (hf _ _ ha2 hb2) ?_;refine go 2 fun v44=>?_
   refine go 1 ?_;refine b0P m0 rfl rfl ((a6u [f a.low b.low,f a.low b.high,f a.high b.low,f a.high b.high])) (fun I2 hI2 hR=>b8e _ _ [f a.low b.low,f a.low b.high,f a.high b.low,f a.high b.high] hR (Nat.zero_lt_succ _)) rfl rfl ?_;refine go 1 ?_;refine a0u ?_;refine go 5 ?_;exact q_v (by rw[c5z h18];rfl)
theorem a2d (I:IMap) (a b:Ivl) :
    FnV prog 137 #[.agg a.cells.toArray,.agg b.cells.toArray] I (.agg (c5r a b).cells.toArray):=by
 refine enter func137 call137 rfl ntmps137 rfl fun w0=>?_;refine go 4 fun g2=>?_
 refine go 2 fun g3=>?_
 refine go 2 fun g4=>?_
 refine go 7 ?_;refine cV (c2E _ a b _ _ (fun x y hx hy=>d0S _ x y hx hy)) ?_;refine go 6 ?_;exact q_v rfl
theorem d7x (I:IMap) (a b:Ivl) :
    FnV prog 374 #[.agg a.cells.toArray,.agg b.cells.toArray] I (.agg (d7Z a b).cells.toArray):=by
 refine enter func374 call374 rfl ntmps374 rfl fun w0=>?_;refine go 4 fun g2=>?_
 refine go 2 fun g3=>?_
 refine go 2 fun g4=>?_
 refine go 7 ?_;refine cV (c2E _ a b _ _ (fun x y hx hy=>c6u _ x y hx hy)) ?_;refine go 6 ?_;exact q_v rfl
theorem d7w (I:IMap) (a b:Ivl) :
    FnV prog 375 #[.agg a.cells.toArray,.agg b.cells.toArray] I (.agg (d7J a b).cells.toArray):=by
 refine enter func375 call375 rfl ntmps375 rfl fun w0=>?_;refine go 4 fun g2=>?_
 refine go 2 fun g3=>?_
 refine go 2 fun g4=>?_
 refine go 7 ?_;refine cV (c2E _ a b _ _ (fun x y hx hy=>c6v _ x y hx hy)) ?_;refine go 6 ?_;exact q_v rfl
theorem c9a (I:IMap) (a b:Ivl) :
    FnV prog 377 #[.agg a.cells.toArray,.agg b.cells.toArray] I (.agg (a4H a b).cells.toArray):=by
 refine enter func377 call377 rfl ntmps377 rfl fun w0=>?_;refine go 4 fun g2=>?_
 refine go 2 fun g3=>?_
 refine go 2 fun g4=>?_
 refine go 4 ?_;refine a1V (I':=I) (L':=[(2,.pointer (some ⟨g2,0,none⟩)),(3,.pointer (some ⟨g3,0,none⟩)),(4,.pointer (some ⟨g4,0,none⟩)),(12,.bool (!a2v a || !a2v b))]) (H':=[.blk g2 81 a.cells,.blk g3 81 b.cells,.blk g4 81 [.int .i64 (0),.int .i64 (0)]]) ?_ ?_
 ·refine go 3 ?_;refine cV (b0D _ a) ?_;refine gS 2 8 (fun h8 p8=>?_) fun h8 p8=>?_
  ·refine go 6 ?_;refine a0b ?_;refine a0d ?_;exact a0r ⟨rfl,rfl,rfl,(bB (by simp only[h8,bS])),trivial⟩ rfl rfl
  ·refine go 2 ?_;refine a0n rfl rfl h8 (a0y (b0D _ b) rfl rfl ?_);refine go 4 ?_;refine a0b ?_;refine a0d ?_;exact a0r ⟨rfl,rfl,rfl,(bB (by simp only[h8,bS])),trivial⟩ rfl rfl
 ·refine gC 0 (fun h12 p12=>?_) fun h12 p12=>?_
  ·refine go 4 ?_;refine a0d ?_;refine go 6 ?_;exact q_v (by rw[d0U h12];rfl)
  ·refine go 14 fun v22=>?_
   refine go 1 ?_;refine b0P m0 rfl rfl ((a6u [a.low,a.high,b.low,b.high])) (fun I2 hI2 hR=>b8e _ _ [a.low,a.high,b.low,b.high] hR (Nat.zero_lt_succ _)) rfl rfl ?_;refine go 1 ?_;refine a0u ?_;refine go 5 ?_;exact q_v (by rw[c6x h12];rfl)
theorem c9b (I:IMap) (x:Ivl) (n:Int) :
    FnV prog 170 #[.agg x.cells.toArray,.int .i64 (n)] I (.int .i64 (b1I x n)):=by
 refine enter func170 call170 rfl ntmps170 rfl fun w0=>?_;refine go 4 fun g2=>?_
 refine go 6 ?_;refine a1V (I':=I) (L':=[(1,.int .i64 (n)),(2,.pointer (some ⟨g2,0,none⟩)),(5,.bool (!a2v x||decide (x.high≤n)))]) (H':=[.blk g2 81 x.cells]) ?_ ?_
 ·refine go 3 ?_;refine cV (b0D _ x) ?_;refine gS 2 9 (fun h9 p9=>?_) fun h9 p9=>?_
  ·refine go 8 ?_;exact a0r ⟨rfl,rfl,(bB (by simp only[h9,bS])),trivial⟩ rfl rfl
  ·refine go 8 ?_;exact a0r ⟨rfl,rfl,(bB (by simp only[h9,bS])),trivial⟩ rfl rfl
 ·refine gC 0 (fun h5 p5=>?_) fun h5 p5=>?_
  ·refine go 9 ?_;exact q_v (congrArg (Value.int .i64) (by unfold b1I;rw[if_pos h5]))
  ·refine gC 9 (fun h15 p15=>?_) fun h15 p15=>?_
   ·refine go 9 ?_;exact q_v (congrArg (Value.int .i64) (by unfold b1I;rw[if_neg (by rw[h5];decide),if_pos p15]))
   ·refine go 10 ?_;exact q_v (congrArg (Value.int .i64) (by unfold b1I;rw[if_neg (by rw[h5];decide),if_neg p15]))
theorem b4y (I:IMap) (N:Nat) (ih:∀(f:Fm),cntN f≤N→∀vs,FmRd I vs f→∀m:Int,0≤m→m≤1000→FnV prog 116 #[.agg vs.toArray,.int .i64 (m)] I (.int .i64 (nodesF f m))) (f:Fm) (hN:cntN f≤N+1) (vs:List Value) (hr:FmRd I vs f) (m:Int) (h0:0≤m) (h1:m≤1000) :
    FnV prog 116 #[.agg vs.toArray,.int .i64 (m)] I (.int .i64 (nodesF f m)):=by
 obtain⟨s,rfl,hs⟩:=a2k hr;obtain⟨A,c0,rfl,hA,hc,hm⟩:=hs;refine enter func116 call116 rfl ntmps116 rfl fun w0=>?_;refine go 4 fun g2=>?_
 refine go 18 ?_;refine a0a ?_
 refine a0B ((0:Nat)) ((1:Int)) (fun i n=>I)
  (fun i n=>[(1,.int .i64 (m)),(5,.int .i64 (n)),(9,.slice A f.kids.length c0),(10,.int .i64 (f.kids.length:Int)),(11,.int .i64 ((i:Nat):Int))])
  (fun i n=>[])
  (fun i n=>i≤f.kids.length∧(1≤n∧n≤m+1)∧nodesL (f.kids.drop i) n m=nodesF f m)
  (fun i n=>f.kids.length-i) ⟨Nat.zero_le _,⟨oM,oM⟩,b0N⟩ rfl sb rfl ?_
 intro i n ⟨hi,hn,hq⟩;refine gC 6 (fun h12 p12=>?_) fun h12 p12=>?_
 ·have hlt:i<f.kids.length:=oM;refine go 6 ?_;obtain⟨b13,o13,w13,e13,c13,r13⟩:=RdA.at_ hA (i:=i) oM;replace r13:=a2k r13;obtain⟨s13,rfl,hs13⟩:=r13;refine go 4 fun g7=>?_
  refine go 1 ?_;refine a0Y _ he rfl rfl rfl rfl rfl (Enc.one (α:=Fm) (a4g hs13)) ?_;refine gC 10 (fun h17 p17=>?_) fun h17 p17=>?_
  ·refine go 15 ?_;exact q_v (congrArg (Value.int .i64) (b2k hlt hq p17))
  ·have hkn:=b3x f.kids[i] (m-n) oM;refine go 9 ?_;refine a0y (ih f.kids[i] (by have:=a4e (List.getElem_mem hlt);omega) _ (a4g hs13) _ oM oM) rfl rfl ?_;refine go 10 ?_;refine a0a ?_;exact a0o (i+1) (_) ⟨oM,oM,b2j hlt hq p17⟩ oM rfl sb rfl
 ·refine go 13 ?_;exact q_v (congrArg (Value.int .i64) (b4T oM hq))
theorem d0H (I:IMap) (f:Fm) (vs:List Value) (hr:FmRd I vs f) (m:Int) (h0:0≤m) (h1:m≤1000):FnV prog 116 #[.agg vs.toArray,.int .i64 (m)] I (.int .i64 (nodesF f m)):=by
 have key:∀(N:Nat) (f:Fm),cntN f≤N→∀vs,FmRd I vs f→∀m:Int,0≤m→m≤1000→FnV prog 116 #[.agg vs.toArray,.int .i64 (m)] I (.int .i64 (nodesF f m)):=by
  intro N
  induction N with
  |zero=>intro f hN;exact absurd hN (by cases f;simp[cntN])
  |succ N ih=>intro f hN vs hr m h0 h1;exact b4y I N ih f hN vs hr m h0 h1
 exact key (cntN f) f (Nat.le_refl _) vs hr m h0 h1
theorem b4z (I:IMap) (N:Nat) (ih:∀(f:Fm),cntN f≤N→∀vs,FmRd I vs f→FnV prog 117 #[.agg vs.toArray] I (.bool (rightF f))) (f:Fm) (hN:cntN f≤N+1) (vs:List Value) (hr:FmRd I vs f) :
    FnV prog 117 #[.agg vs.toArray] I (.bool (rightF f)):=by
 obtain⟨s,rfl,hs⟩:=a2k hr;obtain⟨A,c0,rfl,hA,hc,hm⟩:=hs;refine enter func117 call117 rfl ntmps117 rfl fun w0=>?_;refine go 4 fun g1=>?_
 refine go 9 ?_;refine a7f (α:=Unit) (Ix:=(fun u=>I)) (Lx:=(fun u=>[(1,.pointer (some ⟨g1,0,none⟩)),(3,.int .i64 (a8T f.op))])) (Hx:=(fun u=>[.blk g1 27 [ci f.op,ci f.n,.slice A f.kids.length c0]])) (p:=(fun u=>b4b f=false)) ?_ ?_
 ·refine go 2 ?_;refine a1V (I':=I) (L':=[(1,.pointer (some ⟨g1,0,none⟩)),(3,.int .i64 (0)),(6,.bool (b4b f))]) (H':=[.blk g1 27 [ci f.op,ci f.n,.slice A f.kids.length c0]]) ?_ ?_
  ·refine gS 5 10 (fun h10 p10=>?_) fun h10 p10=>?_
   ·refine go 7 ?_;exact a0r ⟨rfl,rfl,(bB (by simp only[b4b,h10,bS])),trivial⟩ rfl rfl
   ·refine go 7 ?_;exact a0r ⟨rfl,rfl,(bB (by simp only[b4b,h10,bS])),trivial⟩ rfl rfl
  ·refine gC 0 (fun h6 p6=>?_) fun h6 p6=>?_
   ·refine go 9 ?_;exact q_v (congrArg Value.bool (c7M h6).symm)
   ·refine gC 8 (fun h15 p15=>?_) fun h15 p15=>?_
    ·refine go 5 ?_;exact a2A () h6 ⟨rfl,(congrArg (fun z=>some (Value.int .i64 z)) (by unfold a8T;split<;>(try split)<;>omega)),trivial⟩ rfl rfl
    ·refine gC 8 (fun h19 p19=>?_) fun h19 p19=>?_
     ·refine go 5 ?_;exact a2A () h6 ⟨rfl,(congrArg (fun z=>some (Value.int .i64 z)) (by unfold a8T;split<;>(try split)<;>omega)),trivial⟩ rfl rfl
     ·refine go 3 ?_;exact a2A () h6 ⟨rfl,(congrArg (fun z=>some (Value.int .i64 z)) (by unfold a8T;split<;>(try split)<;>omega)),trivial⟩ rfl rfl
 ·intro u h6;refine go 2 ?_;refine a1V (I':=I) (L':=[(1,.pointer (some ⟨g1,0,none⟩)),(47,.bool (b1w f))]) (H':=[.blk g1 27 [ci f.op,ci f.n,.slice A f.kids.length c0]]) ?_ ?_
  ·refine gS 7 28 (fun h28 p28=>?_) fun h28 p28=>?_
   ·refine go 21 ?_;exact a0r ⟨rfl,(bB (by simp only[b1w,h28,bS])),trivial⟩ rfl rfl
   ·refine gS 5 33 (fun h33 p33=>?_) fun h33 p33=>?_
    ·refine go 16 ?_;exact a0r ⟨rfl,(bB (by simp only[b1w,h28,h33,bS])),trivial⟩ rfl rfl
    ·refine gS 5 38 (fun h38 p38=>?_) fun h38 p38=>?_
     ·refine go 11 ?_;exact a0r ⟨rfl,(bB (by simp only[b1w,h28,h33,h38,bS])),trivial⟩ rfl rfl
     ·refine gS 4 42 (fun h42 p42=>?_) fun h42 p42=>?_
      ·refine go 7 ?_;exact a0r ⟨rfl,(bB (by simp only[b1w,h28,h33,h38,h42,bS])),trivial⟩ rfl rfl
      ·refine go 7 ?_;exact a0r ⟨rfl,(bB (by simp only[b1w,h28,h33,h38,h42,bS])),trivial⟩ rfl rfl
  ·refine gC 0 (fun h47 p47=>?_) fun h47 p47=>?_
   ·refine go 8 ?_;exact q_v (congrArg Value.bool (c7N h47).symm)
   ·refine go 12 ?_;refine a0a ?_
    refine a0x (α:=Nat) 0 (fun i=>I)
     (fun i=>[(49,.slice A f.kids.length c0),(50,.int .i64 (f.kids.length:Int)),(51,.int .i64 ((i:Nat):Int))])
     (fun i=>[])
     (fun i=>i≤f.kids.length∧a3v (fun _ k=>rightF k) f.kids i=true)
     (fun i=>f.kids.length-i) ⟨Nat.zero_le _,rfl⟩ rfl sb rfl ?_
    intro i ⟨hi,hn⟩;refine gC 6 (fun h52 p52=>?_) fun h52 p52=>?_
    ·have hlt:i<f.kids.length:=oM;refine go 6 ?_;obtain⟨b53,o53,w53,e53,c53,r53⟩:=RdA.at_ hA (i:=i) oM;replace r53:=a2k r53;obtain⟨s53,rfl,hs53⟩:=r53;refine go 4 fun g5=>?_
     refine go 1 ?_;refine a0Y _ he rfl rfl rfl rfl rfl (Enc.one (α:=Fm) (a4g hs53)) ?_;refine go 6 ?_;refine cV (ih f.kids[i] (by have:=a4e (List.getElem_mem hlt);omega) _ (a4g hs53)) ?_;refine gC 3 (fun h57 p57=>?_) fun h57 p57=>?_
     ·refine go 12 ?_;exact q_v (congrArg Value.bool (c3X hlt (by simpa using h57)).symm)
     ·refine go 8 ?_;refine a0a ?_;exact a0w (i+1) ⟨oM,a1r (f:=fun _ k=>rightF k) hn hlt (by simpa using h57)⟩ oM rfl sb rfl
    ·refine go 12 ?_;have e:i=f.kids.length:=oM;subst e;exact q_v (congrArg Value.bool (c3W h6 h47 hn).symm)
theorem d0I (I:IMap) (f:Fm) (vs:List Value) (hr:FmRd I vs f):FnV prog 117 #[.agg vs.toArray] I (.bool (rightF f)):=by
 have key:∀(N:Nat) (f:Fm),cntN f≤N→∀vs,FmRd I vs f→FnV prog 117 #[.agg vs.toArray] I (.bool (rightF f)):=by
  intro N
  induction N with
  |zero=>intro f hN;exact absurd hN (by cases f;simp[cntN])
  |succ N ih=>intro f hN vs hr;exact b4z I N ih f hN vs hr
 exact key (cntN f) f (Nat.le_refl _) vs hr
theorem c2o (I:IMap) (f:Fm) (vs:List Value) (hr:FmRd I vs f) :
    FnV prog 52 #[.agg vs.toArray] I (.bool (a2L f)):=by
 have hl:=Enc.len (α:=Fm) hr;refine enter func52 call52 rfl ntmps52 rfl fun w0=>?_;refine go 4 fun g1=>?_
 refine go 5 ?_;refine o_v rfl (a2N m0 he rfl hl) ?_;refine go 1 ?_;refine cV (d0H _ f _ hr 60 oM oM) ?_;refine gS 2 6 (fun h6 p6=>?_) fun h6 p6=>?_
 ·refine a0z (a0n rfl rfl h6 (a0q rfl (a2N m0 he rfl hl) ?_));refine go 1 ?_;refine a0n rfl rfl h6 (a0y (d0I _ f _ hr) rfl rfl ?_);refine go 6 ?_;exact q_v (congrArg Value.bool (by simp only[a2L,h6,bS]))
 ·refine go 8 ?_;exact q_v (congrArg Value.bool (by simp only[a2L,h6,bS]))
theorem c2n (I:IMap) (a b:Int) (ha : -(1000000000000:Int)≤a∧a≤(1000000000000:Int)) :
    FnV prog 381 #[.int .i64 (a),.int .i64 (b)] I (.int .i64 (a3Z a b)):=by
 refine enter func381 call381 rfl ntmps381 rfl fun w0=>?_;refine gC 12 (fun h7 p7=>?_) fun h7 p7=>?_
 ·refine go 8 ?_;exact q_v (congrArg (Value.int .i64) (d0F p7).symm)
 ·have htd:=d2H (a:=a) (b:=b);refine go 6 ?_;refine o_v rfl (d8c rfl rfl p7 ⟨oM,oM⟩) ?_;refine go 5 ?_;refine a1V (I':=I) (L':=[(5,.int .i64 (a.tdiv b)),(22,.bool (b0u a b))]) (H':=[]) ?_ ?_
  ·refine go 3 ?_;refine o_v rfl (b5E rfl rfl ⟨oM,oM⟩) ?_;refine gS 3 16 (fun h16 p16=>?_) fun h16 p16=>?_
   ·refine go 4 ?_;refine a0z (a0n rfl rfl h16 (a0q rfl (c4J he rfl rfl) ?_));refine go 3 ?_;exact a0r ⟨rfl,(bB (by simp only[b0u,h7,h16,bS])),trivial⟩ rfl rfl
   ·refine go 8 ?_;exact a0r ⟨rfl,(bB (by simp only[b0u,h7,h16,bS])),trivial⟩ rfl rfl
  ·refine gC 0 (fun h22 p22=>?_) fun h22 p22=>?_
   ·refine go 14 ?_;exact q_v (congrArg (Value.int .i64) (d0E p7 h22))
   ·refine go 10 ?_;exact q_v (congrArg (Value.int .i64) (d0D p7 h22))
theorem b7T (I:IMap) (a:Ivl) (ha:a2v a=true) (low high:Int) (g2 g5:Nat) (A0:Option Addr) (k0:Nat) (l:List Ivl) (hl:l.length≤1000) :
    FnH prog 380 #[.int .i64 (low),.int .i64 (high),.pointer (some ⟨g2,0,none⟩),.pointer (some ⟨g5,0,none⟩)] I [.blk g2 81 a.cells,.blk g5 236 [.slice A0 l.length k0],.row (.slice A0 l.length k0) 81 2 (l).length (c5k (l))] (fun u _ H2=>u = .tuple #[]∧∃A k,H2=[.blk g2 81 a.cells,.blk g5 236 [.slice A (l++a2J a low high).length k],.row (.slice A (l++a2J a low high).length k) 81 2 (l++a2J a low high).length (c5k (l++a2J a low high))]):=by
 refine enter func380 call380 rfl ntmps380 rfl fun w0=>?_;refine gC 7 (fun h12 p12=>?_) fun h12 p12=>?_
 ·have hsg:a2J a low high=[a9B a low,a9B a high]:=if_pos p12;refine go 6 fun v15=>?_
  refine a0i (l:=[low,high]) rfl rfl ((.cons rfl (.one rfl))) fun I15 j15 R15=>?_;obtain⟨A15,c15,rfl,hA15,_,_⟩:=R15;refine go 5 ?_
  refine a4d ((0:Nat)) (A0) (k0) (fun i A1 k1=>I15)
   (fun i A1 k1=>[(2,.pointer (some ⟨g2,0,none⟩)),(3,.pointer (some ⟨g5,0,none⟩)),(15,.slice A15 [low,high].length c15),(16,.int .i64 ([low,high].length:Int)),(17,.int .i64 ((i:Nat):Int))])
   (fun i A1 k1=>[.blk g2 81 a.cells,.blk g5 236 [.slice A1 (l++[a9B a low,a9B a high].take i).length k1],.row (.slice A1 (l++[a9B a low,a9B a high].take i).length k1) 81 2 (l++[a9B a low,a9B a high].take i).length (c5k (l++[a9B a low,a9B a high].take i))])
   (fun i A1 k1=>i≤2)
   (fun i A1 k1=>2-i) oM rfl sb (by simp) ?_
  intro i A1 k1 hi;refine gC 6 (fun h18 p18=>?_) fun h18 p18=>?_
  ·have hlt:i<2:=by simp at p18;omega
   have hai:=a0W.1 ha;obtain⟨d,hd⟩:∃d,[low,high][i]=d:=⟨_,rfl⟩
   have hst:[a9B a low,a9B a high].take (i+1)=[a9B a low,a9B a high].take i++[a9B a d]:=by
     have h2:i=0∨i=1:=oM
     rcases h2 with rfl|rfl<;>(simp at hd;subst hd;rfl)
   refine go 6 ?_;obtain⟨b19,o19,w19,e19,c19,r19⟩:=RdA.at_ hA15 (i:=i) oM;obtain rfl:=r19;refine go 1 ?_;refine o_v rfl (OV.cast (u:=.int .i64 (d)) (a0v he rfl (c19 0 _ rfl)) (congrArg (Value.int .i64) hd)) ?_;refine go 5 ?_;refine dG 0 3 ?_;refine dG 4 3 ?_;refine dH 3 0 ?_;refine cV (c2n _ a.low d oM) ?_;refine dH 7 0 ?_;refine cV (c2n _ a.high d oM) ?_;refine dG 8 2 ?_;refine go 6 ?_;refine o_v rfl (OV.cast (u:=.int .i64 (min (a3Z a.low d) (a3Z a.high d))) (a8h rfl rfl) (congrArg (Value.int .i64) oM)) ?_;refine go 2 ?_;refine o_v rfl (OV.cast (u:=.int .i64 (max (a3Z a.low d) (a3Z a.high d))) (a5L rfl rfl) (congrArg (Value.int .i64) oM)) ?_;refine go 3 fun v37=>?_
   refine go 1 ?_;refine a0u ?_;refine a0O he he rfl rfl rfl rfl rfl (by simp;omega) (by simp;omega) rfl fun v38=>?_;refine a1c fun A38 c38 hv38=>?_;subst hv38;refine go 1 ?_;refine a0u ?_;refine go 9 ?_;refine a0d ?_;refine a0a ?_;refine a0b ?_;refine a0b ?_;refine a0d ?_;exact a2n (i+1) (A38) (c38) oM oM rfl sb (by rw[hst];simp[c6s,c6t];exact⟨oM,rfl⟩)
  ·refine go 5 ?_;have e:i=2:=(by simp at p18;omega);subst e;exact a2g (fun _ m=>m) ⟨rfl,A1,k1,by rw[hsg];rfl⟩
 ·have hsg:a2J a low high=[]:=if_neg p12;refine go 2 ?_;exact a2g (fun _ m=>m) ⟨rfl,A0,k0,by rw[hsg,List.append_nil]⟩
theorem c6k (I:IMap) (a b:Ivl) (ha:a2v a=true) (hb:a2v b=true) :
    FnV prog 376 #[.agg a.cells.toArray,.agg b.cells.toArray] I (.agg (d3i a b).cells.toArray):=by
 obtain⟨q0,hq0⟩:∃q0,(if b.low≤0∧b.high≥0 then [a9M] else [])=q0:=⟨_,rfl⟩;have hQ:a4s a b=q0++a2J a (max b.low 1) b.high++a2J a b.low (min b.high (-1)):=by rw[←hq0];rfl
 have hl0:q0.length≤1:=by rw[←hq0];split<;>simp
 have hs1:=b2v a (max b.low 1) b.high;have hqn:0<(a4s a b).length:=List.length_pos_iff.2 (c7v (a0W.1 hb).2.1)
 have hql:(a4s a b).length≤5:=by
   rw[hQ]
   simp only[List.length_append]
   have:=b2v a b.low (min b.high (-1))
   omega
 refine enter func376 call376 rfl ntmps376 rfl fun w0=>?_;refine go 4 fun g2=>?_
 refine go 2 fun g3=>?_
 refine go 2 fun g4=>?_
 refine go 6 fun g5=>?_
 refine go 3 ?_;refine b0e (Ix:=(fun A k=>I)) (Lx:=(fun A k=>[(2,.pointer (some ⟨g2,0,none⟩)),(3,.pointer (some ⟨g3,0,none⟩)),(4,.pointer (some ⟨g4,0,none⟩)),(5,.pointer (some ⟨g5,0,none⟩))])) (Hx:=(fun A k=>[.blk g2 81 a.cells,.blk g5 236 [.slice A q0.length k],.row (.slice A q0.length k) 81 2 (q0).length (c5k (q0)),.blk g3 81 b.cells,.blk g4 81 [.int .i64 (0),.int .i64 (0)]])) (p:=(fun A k=>True)) ?_ ?_
 ·refine go 1 ?_;refine a1V (I':=I) (L':=[(2,.pointer (some ⟨g2,0,none⟩)),(3,.pointer (some ⟨g3,0,none⟩)),(4,.pointer (some ⟨g4,0,none⟩)),(5,.pointer (some ⟨g5,0,none⟩)),(17,.bool (decide (b.low≤0)&&decide (b.high≥0)))]) (H':=[.blk g5 236 [.slice none 0 0],.blk g4 81 [.int .i64 (0),.int .i64 (0)],.blk g3 81 b.cells,.blk g2 81 a.cells]) ?_ ?_
  ·refine gS 5 13 (fun h13 p13=>?_) fun h13 p13=>?_
   ·refine go 6 ?_;exact a0r ⟨rfl,rfl,rfl,rfl,(bB (by simp only[h13,bS])),trivial⟩ rfl rfl
   ·refine go 6 ?_;exact a0r ⟨rfl,rfl,rfl,rfl,(bB (by simp only[h13,bS])),trivial⟩ rfl rfl
  ·refine gC 0 (fun h17 p17=>?_) fun h17 p17=>?_
   ·have hq1:q0=[a9M]:=by rw[←hq0,if_pos p17]
    refine go 1 ?_;refine a0E 81 2 ?_;refine go 4 fun v20=>?_
    refine go 1 ?_;refine a0b ?_;refine a0O he he rfl rfl rfl rfl rfl (by simp) (by simp) rfl fun v21=>?_;refine a1c fun A21 c21 hv21=>?_;subst hv21;refine go 1 ?_;refine a0d ?_;refine go 3 ?_;refine a0d ?_;refine a0a ?_;refine a0d ?_;refine a0u ?_;refine a0u ?_;refine a0u ?_;refine a1y ?_;exact a3G (A21) (c21) trivial sb (by rw[hq1];rfl) rfl
   ·have hq1:q0=[]:=by rw[←hq0,if_neg (by simpa using h17)]
    refine a0E 81 2 ?_;refine go 2 ?_;refine a0d ?_;refine a0u ?_;refine a0d ?_;refine a0u ?_;refine a1y ?_;exact a3G (none) (0) trivial sb (by rw[hq1];rfl) rfl
 ·intro A k _;refine go 11 ?_;refine o_v rfl (OV.cast (u:=.int .i64 (max b.low 1)) (a5L rfl rfl) (congrArg (Value.int .i64) oM)) ?_;refine go 3 ?_;refine a0d ?_;refine a0d ?_;refine a0d ?_;refine b8y (b7T _ a ha (max b.low 1) b.high g2 g5 _ _ (q0) (by first|omega|(simp only[List.length_append];omega))) rfl rfl fun u29 I29 H29 j29 q29=>?_;obtain⟨rfl,A29,k29,rfl⟩:=q29;refine a9I ?_;refine go 9 ?_;refine o_v rfl (OV.cast (u:=.int .i64 (min b.high (-1))) (a8h rfl rfl) (congrArg (Value.int .i64) oM)) ?_;refine go 1 ?_;refine a0d ?_;refine a0d ?_;refine a0d ?_;refine b8y (b7T _ a ha b.low (min b.high (-1)) g2 g5 _ _ (q0++a2J a (max b.low 1) b.high) (by first|omega|(simp only[List.length_append];omega))) rfl rfl fun u36 I36 H36 j36 q36=>?_;obtain⟨rfl,A36,k36,rfl⟩:=q36;refine a9I ?_;rw[←hQ];refine a0d ?_;refine a0i (l:=a4s a b) rfl rfl (b4I _) fun I37 j37 R37=>?_;have hA37:=R37.rda;refine go 5 ?_;obtain⟨b38,o38,w38,e38,c38,r38⟩:=RdA.at_ hA37 (i:=0) hqn;obtain rfl:=r38;refine o_v rfl (a0l he rfl rfl e38 (0) rfl hqn) ?_;refine go 3 fun g7=>?_
  refine go 13 ?_;refine a0b ?_;refine a0a ?_;refine a0b ?_;refine a0a ?_;refine a0b ?_;refine a0a ?_
  refine a0B ((0:Nat)) ((a4s a b)[0]) (fun i z=>I37)
   (fun i z=>[(4,.pointer (some ⟨g4,0,none⟩)),(7,.pointer (some ⟨g7,0,none⟩)),(40,.slice A36 (a4s a b).length k36),(41,.int .i64 ((a4s a b).length:Int)),(42,.int .i64 ((i:Nat):Int))])
   (fun i z=>[.blk g7 81 z.cells,.blk g4 81 [.int .i64 (0),.int .i64 (0)]])
   (fun i z=>i≤(a4s a b).length∧((a4s a b).take i).foldl a4H (a4s a b)[0]=z)
   (fun i z=>(a4s a b).length-i) ⟨Nat.zero_le _,rfl⟩ rfl sb rfl ?_
  intro i z ⟨hi,hz⟩;refine gC 6 (fun h43 p43=>?_) fun h43 p43=>?_
  ·have hlt:i<(a4s a b).length:=oM;refine go 6 ?_;obtain⟨b44,o44,w44,e44,c44,r44⟩:=RdA.at_ hA37 (i:=i) oM;obtain rfl:=r44;refine go 4 fun g9=>?_
   refine go 8 ?_;refine cV (c9a _ z (a4s a b)[i]) ?_;refine go 1 ?_;refine a0b ?_;refine go 9 ?_;refine a0b ?_;refine a0a ?_;exact a0o (i+1) (_) ⟨oM,by rw[b9M hlt,hz]⟩ oM rfl sb rfl
  ·refine go 9 ?_;refine a0b ?_;refine go 5 ?_;have e:i=(a4s a b).length:=oM;subst e;rw[List.take_length]at hz
   exact a8J (by rw[←hz,d3X hqn])
theorem d1Y (I:IMap) (u:Use) (op:Int) (a b:Ivl) (ha:a2v a=true) (hb:a2v b=true) :
    FnV prog 370 #[.agg u.cells.toArray,.int .i64 (op),.agg a.cells.toArray,.agg b.cells.toArray] I (.agg (a5Q op a b).cells.toArray):=by
 refine enter func370 call370 rfl ntmps370 rfl fun w0=>?_;refine go 4 fun g4=>?_
 refine go 2 fun g6=>?_
 refine go 2 fun g7=>?_
 refine go 2 fun g8=>?_
 refine gC 15 (fun h10 p10=>?_) fun h10 p10=>?_
 ·refine go 5 ?_;refine cV (a2d _ a b) ?_;refine go 8 ?_;exact q_v (by unfold a5Q;repeat (first|rw[if_pos (by assumption)] | rw[if_neg (by assumption)] | rfl))
 ·refine gC 6 (fun h15 p15=>?_) fun h15 p15=>?_
  ·refine go 5 ?_;refine cV (d7x _ a b) ?_;refine go 8 ?_;exact q_v (by unfold a5Q;repeat (first|rw[if_pos (by assumption)] | rw[if_neg (by assumption)] | rfl))
  ·refine gC 6 (fun h20 p20=>?_) fun h20 p20=>?_
   ·refine go 5 ?_;refine cV (d7w _ a b) ?_;refine go 8 ?_;exact q_v (by unfold a5Q;repeat (first|rw[if_pos (by assumption)] | rw[if_neg (by assumption)] | rfl))
   ·refine gC 6 (fun h25 p25=>?_) fun h25 p25=>?_
    ·refine go 6 ?_;refine o_v rfl (OV.cast (u:=.int .i64 (min a.low b.low)) (a8h rfl rfl) (congrArg (Value.int .i64) oM)) ?_;refine go 4 ?_;refine o_v rfl (OV.cast (u:=.int .i64 (min a.high b.high)) (a8h rfl rfl) (congrArg (Value.int .i64) oM)) ?_;refine go 9 ?_;exact q_v (by unfold a5Q;repeat (first|rw[if_pos (by assumption)] | rw[if_neg (by assumption)] | rfl))
    ·refine gC 6 (fun h38 p38=>?_) fun h38 p38=>?_
     ·refine go 6 ?_;refine o_v rfl (OV.cast (u:=.int .i64 (max a.low b.low)) (a5L rfl rfl) (congrArg (Value.int .i64) oM)) ?_;refine go 4 ?_;refine o_v rfl (OV.cast (u:=.int .i64 (max a.high b.high)) (a5L rfl rfl) (congrArg (Value.int .i64) oM)) ?_;refine go 9 ?_;exact q_v (by unfold a5Q;repeat (first|rw[if_pos (by assumption)] | rw[if_neg (by assumption)] | rfl))
     ·refine go 8 ?_;refine cV (c6k _ a b ha hb) ?_;refine go 6 ?_;exact q_v (by unfold a5Q;repeat (first|rw[if_pos (by assumption)] | rw[if_neg (by assumption)] | rfl))
theorem c7J (I:IMap) (u:Use) (a b c:Ivl) :
    FnV prog 371 #[.agg u.cells.toArray,.agg a.cells.toArray,.agg b.cells.toArray,.agg c.cells.toArray] I (.agg (a6S a b c).cells.toArray):=by
 refine enter func371 call371 rfl ntmps371 rfl fun w0=>?_;refine go 4 fun g4=>?_
 refine go 2 fun g5=>?_
 refine go 2 fun g6=>?_
 refine go 2 fun g7=>?_
 refine go 2 fun g8=>?_
 refine go 7 ?_;refine cV (c9b _ a 0) ?_;refine gC 9 (fun h11 p11=>?_) fun h11 p11=>?_
 ·refine go 11 ?_;exact q_v (by unfold a6S;repeat (first|rw[if_pos (by assumption)] | rw[if_neg (by assumption)] | rfl))
 ·refine gC 6 (fun h14 p14=>?_) fun h14 p14=>?_
  ·refine go 11 ?_;exact q_v (by unfold a6S;repeat (first|rw[if_pos (by assumption)] | rw[if_neg (by assumption)] | rfl))
  ·refine go 8 ?_;refine cV (c9a _ b c) ?_;refine go 6 ?_;exact q_v (by unfold a6S;repeat (first|rw[if_pos (by assumption)] | rw[if_neg (by assumption)] | rfl))
theorem c7K (I:IMap) (u:Use) (op:Int) :
    FnV prog 372 #[.agg u.cells.toArray,.int .i64 (op)] I (.agg (a6W u op).cells.toArray):=by
 refine enter func372 call372 rfl ntmps372 rfl fun w0=>?_;refine go 4 fun g2=>?_
 refine go 2 fun g4=>?_
 refine gC 15 (fun h6 p6=>?_) fun h6 p6=>?_
 ·refine go 4 ?_;refine o_v rfl (a1R (u.km.cells) m1 he rfl rfl rfl) ?_;refine go 8 ?_;exact q_v (by unfold a6W;repeat (first|rw[if_pos (by assumption)] | rw[if_neg (by assumption)] | rfl))
 ·refine gC 6 (fun h11 p11=>?_) fun h11 p11=>?_
  ·refine go 4 ?_;refine o_v rfl (a1R (u.cycles.cells) m1 he rfl rfl rfl) ?_;refine go 8 ?_;exact q_v (by unfold a6W;repeat (first|rw[if_pos (by assumption)] | rw[if_neg (by assumption)] | rfl))
  ·refine go 7 ?_;refine o_v rfl (a1R (u.load.cells) m1 he rfl rfl rfl) ?_;refine go 6 ?_;exact q_v (by unfold a6W;repeat (first|rw[if_pos (by assumption)] | rw[if_neg (by assumption)] | rfl))
theorem c7L (I:IMap) (u:Use) (n:Int) :
    FnV prog 373 #[.agg u.cells.toArray,.int .i64 (n)] I (.agg #[.int .i64 (n),.int .i64 (n)]):=by
 refine enter func373 call373 rfl ntmps373 rfl fun w0=>?_;refine go 4 fun g2=>?_
 refine go 2 fun g4=>?_
 refine go 13 ?_;exact q_v rfl
theorem b9L (I:IMap) (u:Use) (hu:a8R u=true) (N:Nat) (ih:∀(f:Fm),cntN f≤N→∀vs,FmRd I vs f→rightF f=true→FnV prog 135 #[.iface 239 (.agg u.cells.toArray),.agg vs.toArray] I (.agg (a2K u f).cells.toArray)) (f:Fm) (hN:cntN f≤N+1) (vs:List Value) (hr:FmRd I vs f) (hR:rightF f=true) :
    FnV prog 135 #[.iface 239 (.agg u.cells.toArray),.agg vs.toArray] I (.agg (a2K u f).cells.toArray):=by
 obtain⟨s,rfl,hs⟩:=a2k hr;obtain⟨A,c0,rfl,hA,hc,hm⟩:=hs;refine enter func135 call135 rfl ntmps135 rfl fun w0=>?_;refine go 4 fun g3=>?_
 refine go 2 fun g4=>?_
 refine gC 12 (fun h5 p5=>?_) fun h5 p5=>?_
 ·refine go 6 ?_;refine b8z he (c7L _ u f.n) rfl rfl rfl ?_;refine go 8 ?_;exact q_v (by rw[c8f hR p5];rfl)
 ·refine gC 8 (fun h13 p13=>?_) fun h13 p13=>?_
  ·refine go 6 ?_;refine b8z he (c7K _ u f.op) rfl rfl rfl ?_;refine go 8 ?_;exact q_v (by rw[b7d hR p5 p13])
  ·refine gC 8 (fun h21 p21=>?_) fun h21 p21=>?_
   ·have h3:=d7A hR p21;refine go 1 ?_;refine ds1 ?_;refine dG 0 4 ?_;obtain⟨b29,o29,w29,e29,c29,r29⟩:=RdA.at_ hA (i:=0) oM;replace r29:=a2k r29;obtain⟨s29,rfl,hs29⟩:=r29;refine a0F 4 rfl rfl (by kernel_rfl) rfl (.cons _ (.refl _)) rfl (a0l he rfl rfl e29 (0) rfl oM) ?_;refine dG 5 1 ?_;refine dG 7 3 ?_;obtain⟨b35,o35,w35,e35,c35,r35⟩:=RdA.at_ hA (i:=1) oM;replace r35:=a2k r35;obtain⟨s35,rfl,hs35⟩:=r35;refine a0F 10 rfl rfl (by kernel_rfl) rfl (.cons _ (.refl _)) rfl (a0l he rfl rfl e35 (1) rfl oM) ?_;refine dG 11 1 ?_;refine dG 13 3 ?_;obtain⟨b41,o41,w41,e41,c41,r41⟩:=RdA.at_ hA (i:=2) oM;replace r41:=a2k r41;obtain⟨s41,rfl,hs41⟩:=r41;refine a0F 16 rfl rfl (by kernel_rfl) rfl (.cons _ (.refl _)) rfl (a0l he rfl rfl e41 (2) rfl oM) ?_;refine dG 17 1 ?_;refine dG 19 1 ?_;refine a0F 20 rfl rfl (by kernel_rfl) rfl (.cons _ (.refl _)) rfl (b5F he rfl) ?_;refine dG 21 1 ?_;refine dH 6 0 ?_;refine cV (ih (f.kids[0]'oM) (by have:=a4e (List.getElem_mem (show 0<f.kids.length from oM));omega) _ (a4g hs29) (a4A hR 0 _)) ?_;refine dH 12 0 ?_;refine cV (ih (f.kids[1]'oM) (by have:=a4e (List.getElem_mem (show 1<f.kids.length from oM));omega) _ (a4g hs35) (a4A hR 1 _)) ?_;refine dH 18 0 ?_;refine cV (ih (f.kids[2]'oM) (by have:=a4e (List.getElem_mem (show 2<f.kids.length from oM));omega) _ (a4g hs41) (a4A hR 2 _)) ?_;refine dH 22 0 ?_;refine b8z he (c7J _ u _ _ _) rfl rfl rfl ?_;refine dH 23 0 ?_;refine go 8 ?_;exact q_v (by rw[d2x h3])
   ·have h2:=d7z hR p21 p13;refine go 4 ?_;refine ds1 ?_;refine dG 0 6 ?_;obtain⟨b54,o54,w54,e54,c54,r54⟩:=RdA.at_ hA (i:=0) oM;replace r54:=a2k r54;obtain⟨s54,rfl,hs54⟩:=r54;refine a0F 6 rfl rfl (by kernel_rfl) rfl (.cons _ (.refl _)) rfl (a0l he rfl rfl e54 (0) rfl oM) ?_;refine dG 7 1 ?_;refine dG 9 3 ?_;obtain⟨b60,o60,w60,e60,c60,r60⟩:=RdA.at_ hA (i:=1) oM;replace r60:=a2k r60;obtain⟨s60,rfl,hs60⟩:=r60;refine a0F 12 rfl rfl (by kernel_rfl) rfl (.cons _ (.refl _)) rfl (a0l he rfl rfl e60 (1) rfl oM) ?_;refine dG 13 1 ?_;refine dG 15 1 ?_;refine a0F 16 rfl rfl (by kernel_rfl) rfl (.cons _ (.refl _)) rfl (b5F he rfl) ?_;refine dG 17 1 ?_;refine dH 8 0 ?_;refine cV (ih (f.kids[0]'oM) (by have:=a4e (List.getElem_mem (show 0<f.kids.length from oM));omega) _ (a4g hs54) (a4A hR 0 _)) ?_;refine dH 14 0 ?_;refine cV (ih (f.kids[1]'oM) (by have:=a4e (List.getElem_mem (show 1<f.kids.length from oM));omega) _ (a4g hs60) (a4A hR 1 _)) ?_;refine dH 18 0 ?_;refine b8z he (d1Y _ u _ _ _ (a7a hu _ (a4A hR 0 oM)) (a7a hu _ (a4A hR 1 oM))) rfl rfl rfl ?_;refine dH 19 0 ?_;refine go 6 ?_;exact q_v (by rw[c8g h2])
theorem d7r (I:IMap) (u:Use) (hu:a8R u=true) (f:Fm) (vs:List Value) (hr:FmRd I vs f) (hR:rightF f=true):FnV prog 135 #[.iface 239 (.agg u.cells.toArray),.agg vs.toArray] I (.agg (a2K u f).cells.toArray):=by
 have key:∀(N:Nat) (f:Fm),cntN f≤N→∀vs,FmRd I vs f→rightF f=true→FnV prog 135 #[.iface 239 (.agg u.cells.toArray),.agg vs.toArray] I (.agg (a2K u f).cells.toArray):=by
  intro N
  induction N with
  |zero=>intro f hN;exact absurd hN (by cases f;simp[cntN])
  |succ N ih=>intro f hN vs hr hR;exact b9L I u hu N ih f hN vs hr hR
 exact key (cntN f) f (Nat.le_refl _) vs hr hR
theorem c6j (I:IMap) (f:Fm) (vs:List Value) (hr:FmRd I vs f) (u:Use) :
    FnV prog 58 #[.agg vs.toArray,.agg u.cells.toArray] I (.agg (b2S f u).cells.toArray):=by
 obtain⟨s,rfl,hs⟩:=a2k hr;obtain⟨A,c0,rfl,hA,hc,hm⟩:=hs;refine enter func58 call58 rfl ntmps58 rfl fun w0=>?_;refine go 4 fun g2=>?_
 refine go 2 fun g3=>?_
 refine go 2 fun g4=>?_
 refine go 6 ?_;refine o_v rfl (a1R (u.km.cells) m1 he rfl rfl rfl) ?_;refine go 1 ?_;refine o_v rfl (a1R (u.cycles.cells) m1 he rfl rfl rfl) ?_;refine go 1 ?_;refine o_v rfl (a1R (u.load.cells) m1 he rfl rfl rfl) ?_;refine go 2 fun v14=>?_
 refine a0i (l:=[u.km,u.cycles,u.load]) rfl rfl ((b4I [u.km,u.cycles,u.load])) fun I14 j14 R14=>?_;have hr:=hr.le j14;obtain⟨A14,c14,rfl,hA14,_,_⟩:=R14;refine go 5 ?_;refine a0b ?_;refine a0d ?_
 refine a0x (α:=Nat) 0 (fun i=>I14)
  (fun i=>[(2,.pointer (some ⟨g2,0,none⟩)),(3,.pointer (some ⟨g3,0,none⟩)),(4,.pointer (some ⟨g4,0,none⟩)),(14,.slice A14 [u.km,u.cycles,u.load].length c14),(15,.int .i64 ([u.km,u.cycles,u.load].length:Int)),(16,.int .i64 ((i:Nat):Int))])
  (fun i=>[.blk g2 27 [ci f.op,ci f.n,.slice A f.kids.length c0],.blk g3 128 u.cells,.blk g4 81 [.int .i64 (0),.int .i64 (0)]])
  (fun i=>i≤3∧a3v (fun _ q=>a8Q q) [u.km,u.cycles,u.load] i=true)
  (fun i=>3-i) ⟨oM,rfl⟩ rfl sb rfl ?_
 intro i ⟨hi,hn⟩;refine gC 6 (fun h17 p17=>?_) fun h17 p17=>?_
 ·have hlt:i<3:=by simp at p17;omega
  refine go 6 ?_;obtain⟨b18,o18,w18,e18,c18,r18⟩:=RdA.at_ hA14 (i:=i) oM;obtain rfl:=r18;refine go 4 fun g6=>?_
  refine go 5 ?_;refine a1V (I':=I14) (L':=[(2,.pointer (some ⟨g2,0,none⟩)),(3,.pointer (some ⟨g3,0,none⟩)),(4,.pointer (some ⟨g4,0,none⟩)),(14,.slice A14 [u.km,u.cycles,u.load].length c14),(15,.int .i64 ([u.km,u.cycles,u.load].length:Int)),(16,.int .i64 ((i:Nat):Int)),(6,.pointer (some ⟨g6,0,none⟩)),(34,.bool (!a8Q [u.km,u.cycles,u.load][i]))]) (H':=[.blk g6 81 [u.km,u.cycles,u.load][i].cells,.blk g2 27 [ci f.op,ci f.n,.slice A f.kids.length c0],.blk g3 128 u.cells,.blk g4 81 [.int .i64 (0),.int .i64 (0)]]) ?_ ?_
  ·refine gS 5 23 (fun h23 p23=>?_) fun h23 p23=>?_
   ·refine go 13 ?_;exact a0r ⟨rfl,rfl,rfl,rfl,rfl,rfl,rfl,(bB (by simp only[a8Q,Bool.not_not,h17,h23,bS])),trivial⟩ rfl rfl
   ·refine gS 7 30 (fun h30 p30=>?_) fun h30 p30=>?_
    ·refine go 6 ?_;exact a0r ⟨rfl,rfl,rfl,rfl,rfl,rfl,rfl,(bB (by simp only[a8Q,Bool.not_not,h17,h23,h30,bS])),trivial⟩ rfl rfl
    ·refine go 6 ?_;exact a0r ⟨rfl,rfl,rfl,rfl,rfl,rfl,rfl,(bB (by simp only[a8Q,Bool.not_not,h17,h23,h30,bS])),trivial⟩ rfl rfl
  ·refine gC 0 (fun h34 p34=>?_) fun h34 p34=>?_
   ·refine go 4 ?_;refine a0u ?_;refine go 10 ?_;exact a8J (by rw[d3V (d5O hlt (by simpa using h34))];rfl)
   ·refine go 8 ?_;refine a0a ?_;exact a0w (i+1) ⟨oM,a1r (f:=fun _ q=>a8Q q) hn (show i<[u.km,u.cycles,u.load].length from hlt) (by simpa using h34)⟩ oM rfl sb rfl
 ·have e:i=3:=(by simp at p17;omega);subst e;have hu:a8R u=true:=d2N hn;refine go 10 ?_;refine cV (c2o _ f _ hr) ?_;refine gC 3 (fun h39 p39=>?_) fun h39 p39=>?_
  ·refine go 4 ?_;refine a0d ?_;refine go 6 ?_;exact a8J (by rw[d0l hu (by simpa using h39)];rfl)
  ·have hv:a2L f=true:=by simpa using h39
   refine go 6 ?_;refine o_v rfl (d2Q T.stk_239 rfl) ?_;refine go 2 ?_;refine cV (d7r _ u hu f _ hr (by simp only[a2L,Bool.and_eq_true]at hv;exact hv.2)) ?_;refine go 2 fun g7=>?_
   refine go 8 ?_;refine o_v rfl (OV.cast (u:=.int .i64 (max 0 (a2K u f).low)) (a5L rfl rfl) (congrArg (Value.int .i64) oM)) ?_;refine go 2 ?_;refine o_v rfl (OV.cast (u:=.int .i64 (max 0 (a2K u f).high)) (a5L rfl rfl) (congrArg (Value.int .i64) oM)) ?_;refine go 2 ?_;refine a0u ?_;refine go 5 ?_;exact a8J (by rw[d0m hu hv];rfl)
end Go.Proofs.YtgmkjpafapgccaaGreat
namespace Go.Proofs.YtgmkjpafapgccaaGreat
open Go Go.Sx Tryz
set_option linter.all false
set_option maxRecDepth 20000
set_option maxHeartbeats 4000000
instance:Has (a1k prog 29 0) (0,true,1):=hk
instance:Has (a1k prog 29 1) (1,true,3):=hk
instance:Has (prog.underlying 168) (.map 9 9):=hk
theorem a7r (I:IMap) (v:Value) (l:List Part) (hv:RdS I v l) (s:ByteArray) (hN:b1X l≤12) :
    FnX prog 25 #[.agg #[v],.string s] I [] (fun u r=>∃ns,r = .row u 9 1 ns.length (a1x ns).flatten∧(∀n,n∈ns↔a7c l s n)∧ns.length≤12∧ns.Nodup):=by
 have hv0:=hv;obtain⟨A,c0,rfl,hA,hc,hm⟩:=hv;refine enter func25 call25 rfl ntmps25 rfl fun w0=>?_;refine go 4 fun g2=>?_
 refine go 7 ?_;refine a1X (d6G _ _ l hv0) rfl rfl fun v20 s20 q20=>?_;obtain⟨m20,kvs,rfl,rfl,hIx,hnd⟩:=q20;obtain⟨z,b,hz,hb,hfs,hfn⟩:=hIx.look s;refine go 2 fun g5=>?_
 refine go 10 ?_;refine o_v rfl (a9g m1 (a0H he) he he (s) rfl rfl hz hb) ?_;refine gC 13 (fun h29 p29=>?_) fun h29 p29=>?_
 ·refine go 8 ?_;refine a0a ?_;refine a0a ?_;refine a0a ?_;refine a0E 9 1 ?_;exact q_x ⟨[],rfl,fun n=>⟨fun h=>(by cases h),fun h=>absurd h (d1r (hfn (by simpa using h29)) n)⟩,Nat.zero_le _,List.nodup_nil⟩
 ·have hsome:(a0e l s).isSome=true:=by
    obtain⟨i,hi,_,hF⟩:=hfs (by simpa using h29);rw[hF];rfl
  refine go 5 ?_;refine a5i (Value.string) he rfl fun r30=>?_;refine go 7 ?_;refine a0d ?_;refine a5o fun S0 hO0 hT0 hS0=>?_;refine go 2 ?_;refine b6B hS0 he rfl rfl fun i33=>?_;refine go 3 ?_;refine a1y ?_;refine a0a ?_
  refine a4d (S0) (kvs) ([]) (fun S todo done=>I)
   (fun S todo done=>[(1,.string s),(5,.pointer (some ⟨g5,0,none⟩)),(8,.map (some r30)),(33,.pointer (some ⟨i33,0,none⟩))])
   (fun S todo done=>[.any i33 (S.it m20),.any m20 S.mp,.mp r30 (a1A Value.string (a3h (a4n l (done.map Prod.fst)))),.blk g5 165 [.slice A l.length c0,.map (some m20)]])
   (fun S todo done=>S.Ok Value.string kvs∧S.Todo Value.string todo∧(done++todo).Perm kvs)
   (fun S todo done=>todo.length) ⟨hO0,hT0,.refl _⟩ rfl sb rfl ?_
  intro S todo done ⟨hO,hT,hP⟩;refine go 3 ?_;refine a0b ?_;refine a0b ?_;refine c3g hO hT rfl rfl fun q34 S34 t34 hst=>?_;refine o_v rfl (a2M rfl (b0K _ _)) ?_;refine gC 3 (fun h35 p35=>?_) fun h35 p35=>?_
  ·obtain⟨p,a,b,htd,hO1,hT1,hA1,rfl,rfl⟩:=hst.some h35;have hpk:=c7f hP htd;have hpn:=c7g hP htd hnd;obtain⟨i,hi,hpv,hF⟩:=hIx.mem hnd hpk;have hup:upP l p.1=l[i].into:=by unfold upP;rw[hF];rfl
   refine go 5 ?_;refine o_v rfl (b7j m0 m1 hO1 hA1 rfl) ?_;refine go 1 ?_;refine o_v rfl (OV.cast (u:=.int .i64 ((i:Nat):Int)) (a2M rfl rfl) hpv) ?_;refine go 9 ?_;obtain⟨b42,o42,w42,e42,c42,r42⟩:=RdA.at_ hA (i:=i) hi;obtain⟨q42,rfl,B42,d42,rfl,hB42,hd42,hm42⟩:=r42;refine o_v rfl (a0l he rfl rfl e42 (i) rfl hi) ?_;refine go 1 ?_;refine o_v rfl (OV.cast (u:=.string (upP l p.1)) (a0v he rfl (c42 2 _ rfl)) (congrArg Value.string hup.symm)) ?_;refine gC 9 (fun h46 p46=>?_) fun h46 p46=>?_
   ·refine go 5 ?_;refine a0d ?_;refine a2S (a3h ((a4n l (done.map Prod.fst))++[(p.1,upP l p.1)])) (a0H he) he (p.1) rfl rfl rfl (c1X (c6a hpn)) ?_;refine go 3 ?_;refine a0u ?_;refine a0b ?_;refine a0u ?_;refine a0u ?_;exact a2n (S34) (a++b) (done++[p]) ⟨hO1,hT1,a5k hP htd⟩ (by rw[htd];simp) rfl sb (by rw[c2i p46])
   ·refine go 3 ?_;exact a2n (S34) (a++b) (done++[p]) ⟨hO1,hT1,a5k hP htd⟩ (by rw[htd];simp) rfl sb (by rw[c2h (by simpa using h46)])
  ·obtain⟨rfl,rfl,rfl⟩:=hst.none h35;have hdp:done.Perm kvs:=by simpa using hP
   refine go 10 ?_;refine a0d ?_;refine b8A (a0H he) he s rfl rfl ?_;rw[b4t (d0y hnd hdp)];have hB0:=Bfs.start (v:=s) hIx hnd hdp;refine go 4 ?_;refine a0E 9 1 ?_;refine go 9 fun v53=>?_
   refine a0i (l:=[s]) rfl rfl ((.one rfl)) fun I53 j53 R53=>?_;have R53s:=R53;obtain⟨A53,c53,rfl,_,_,_⟩:=R53s;refine go 4 ?_;refine a0d ?_;refine a0a ?_;refine a0d ?_;refine a0a ?_;refine a0d ?_;refine a0a ?_
   refine c1t (_) ([s]) ([]) (A53) (c53) (_) ([]) (I53) (fun R lst out A1 c1 v12 xs J=>J)
    (fun R lst out A1 c1 v12 xs J=>[(8,.map (some r30)),(12,v12),(13,.slice A1 lst.length c1)])
    (fun R lst out A1 c1 v12 xs J=>[.row v12 9 1 out.length xs,.mp r30 (a1A Value.string (a3h R))])
    (fun R lst out A1 c1 v12 xs J=>RdS J (.slice A1 lst.length c1) lst∧Flat J xs out∧Bfs l s R lst out)
    (fun R lst out A1 c1 v12 xs J=>R.length+R.length+min lst.length 1) ⟨R53,.nil,hB0⟩ rfl sb rfl ?_
   intro R lst out A1 c1 v12 xs J ⟨hL,hFo,hB⟩;have hlen:=hB.len;refine gC 8 (fun h56 p56=>?_) fun h56 p56=>?_
   ·refine go 5 ?_;refine a0E 9 1 ?_;refine go 6 ?_;refine a0d ?_;refine a5o fun S0 hO0 hT0 hS0=>?_;refine go 2 ?_;refine b6B hS0 he rfl rfl fun i58=>?_;refine go 3 ?_
    refine a5t (S0) (R) ([]) (_) ([]) (fun S todo done v14 ys=>J)
     (fun S todo done v14 ys=>[(8,.map (some r30)),(12,v12),(13,.slice A1 lst.length c1),(14,v14),(58,.pointer (some ⟨i58,0,none⟩))])
     (fun S todo done v14 ys=>[.any i58 (S.it r30),.any r30 S.mp,.row v14 9 1 (a2x lst done).length ys,.row v12 9 1 out.length xs])
     (fun S todo done v14 ys=>S.Ok Value.string (a3h R)∧S.Todo Value.string (a3h todo)∧(done++todo).Perm R∧Flat J ys (a2x lst done))
     (fun S todo done v14 ys=>todo.length) ⟨hO0,hT0,.refl _,.nil⟩ rfl sb rfl ?_
    intro S todo done v14 ys ⟨hO,hT,hP,hFy⟩;have hdl:=hP.length_eq;rw[List.length_append]at hdl
    have hnl:=c2X (lst:=lst) done;refine go 3 ?_;refine a0b ?_;refine a0b ?_;refine c3g hO hT rfl rfl fun q59 S59 t59 hst=>?_;refine o_v rfl (a2M rfl (b0K _ _)) ?_;refine gC 3 (fun h60 p60=>?_) fun h60 p60=>?_
    ·obtain⟨n,u,a,b,htd,hO1,hT1,hA1,rfl⟩:=hst.nu h60;refine go 5 ?_;refine o_v rfl (b7j m0 m1 hO1 hA1 rfl) ?_;refine go 11 ?_;refine cV (a3m _ _ lst hL u) ?_;refine gC 2 (fun h66 p66=>?_) fun h66 p66=>?_
     ·refine go 5 fun v69=>?_
      refine go 1 ?_;refine a0u ?_;refine a0O he he rfl rfl rfl rfl rfl oM oM rfl fun v70=>?_;refine go 4 ?_;refine a0b ?_;refine a0a ?_;refine a0u ?_;refine a0b ?_;refine a0u ?_;refine a0u ?_;exact a2Y (S59) (a++b) (done++[(n,u)]) (_) (_) ⟨hO1,hT1,a5k hP htd,by rw[b4P (p:=(n,u)) p66];exact hFy.append (.one rfl)⟩ (by rw[htd];simp) rfl sb (by rw[b4P (p:=(n,u)) p66,List.length_append];rfl)
     ·refine go 3 ?_;exact a2Y (S59) (a++b) (done++[(n,u)]) (_) (_) ⟨hO1,hT1,a5k hP htd,by rw[b8u (p:=(n,u)) p66];exact hFy⟩ (by rw[htd];simp) rfl sb (by rw[b8u (p:=(n,u)) p66])
    ·obtain⟨rfl,rfl,rfl⟩:=hst.nuNone h60;have hdp:done.Perm R:=by simpa using hP
     refine a0b ?_;refine c0L hO ?_;refine go 8 ?_;refine a0d ?_;refine a0i (l:=(a2x lst done)) rfl rfl (hFy) fun I71 j71 R71=>?_;have hFo:=hFo.le j71;have R71s:=R71;obtain⟨A14,c14,rfl,hA71,_,_⟩:=R71s;refine go 6 ?_;refine a0b ?_;refine a0a ?_
     refine a0x (α:=Nat) 0 (fun i=>I71)
      (fun i=>[(8,.map (some r30)),(12,v12),(14,.slice A14 (a2x lst done).length c14),(71,.slice A14 (a2x lst done).length c14),(72,.int .i64 (((a2x lst done).length:Nat):Int)),(73,.int .i64 ((i:Nat):Int))])
      (fun i=>[.mp r30 (a1A Value.string (a3h (a7S R ((a2x lst done).take i)))),.row v12 9 1 out.length xs])
      (fun i=>i≤(a2x lst done).length)
      (fun i=>(a2x lst done).length-i) (Nat.zero_le _) rfl sb (by rw[List.take_zero,c3U]) ?_
     intro i hi;refine gC 6 (fun h74 p74=>?_) fun h74 p74=>?_
     ·have hlt:i<(a2x lst done).length:=oM;refine go 6 ?_;obtain⟨b75,o75,w75,e75,c75,r75⟩:=RdA.at_ hA71 (i:=i) oM;obtain rfl:=r75;refine go 9 ?_;refine b8A (a0H he) he ((a2x lst done)[i]) rfl rfl ?_;rw[c0F hlt hB.kn];refine go 8 ?_;exact a0w (i+1) oM oM rfl sb rfl
     ·obtain rfl:i=(a2x lst done).length:=oM;rw[List.take_length];refine go 10 ?_;refine a0b ?_;refine a2q (R71) rfl he he rfl rfl rfl rfl oM oM rfl fun v82 x82 f82=>?_;refine go 9 ?_;exact b6O (a7S R (a2x lst done)) ((a2x lst done)) (out++(a2x lst done)) (A14) (c14) (_) (_) (I71) ⟨R71,hFo.append f82,hB.step hsome hdp⟩ (by have:=b8v (lst:=lst) hB.kn hdp;omega) rfl sb (by rw[List.length_append])
   ·obtain rfl:lst=[]:=List.eq_nil_of_length_eq_zero oM;refine go 9 ?_;refine a0Q (b8W _ _ out xs hFo oM) rfl rfl fun v85 s85 q85=>?_;obtain⟨rfl,m,ys,hpm,hFm,rfl⟩:=q85;refine go 10 ?_;refine a0b ?_;refine a0a ?_;exact q_x ⟨m,by rw[hpm.1,c6h hFm],fun n=>(hpm.2 n).trans hB.over,by have:=hpm.1;omega,b4U m out hB.ond (by have:=hpm.1;omega) fun x hx=>(hpm.2 x).2 hx⟩
theorem d1a (I:IMap) {xss:List (List Value)} (g t i:Nat) (hU:Uk 14 xss) (p:Part) (q:Value) (hi:xss[i]? = some (p.cells q)) (u:Use) (dd:Ivl) (off:Nat) (ho:off=i * 14+8) :
    FnM prog 61 #[.pointer (some ⟨g,off,none⟩),.agg u.cells.toArray,.agg dd.cells.toArray] I (.blk g t xss.flatten) (.blk g t (xss.set i ((a9P dd u p).cells q)).flatten):=by
 refine enter func61 call61 rfl ntmps61 rfl fun w0=>?_;refine go 4 fun g4=>?_
 refine go 2 fun g5=>?_
 refine go 2 ?_;refine a0d ?_;refine ds1 ?_;refine dG 0 6 ?_;refine dG 7 1 ?_;refine a0F 8 rfl rfl (by kernel_rfl) rfl (.cons _ (.refl _)) rfl (a1R (u.km.cells) m1 he rfl rfl rfl) ?_;refine dG 10 3 ?_;refine dG 14 1 ?_;refine a0F 15 rfl rfl (by kernel_rfl) rfl (.cons _ (.refl _)) rfl (a1R (u.cycles.cells) m1 he rfl rfl rfl) ?_;refine dG 17 3 ?_;refine dG 21 1 ?_;refine dT3 6 13 20 ?_ ?_ ?_
 ·refine a0q rfl (a2l (p.life.km.cells) m0 hU he rfl (i) 8 oM hi rfl rfl rfl) ?_;refine go 1 ?_;refine dT3 9 13 20 ?_ ?_ ?_
  ·refine cV (a2d _ p.life.km u.km) ?_;refine go 1 ?_;refine dT2 13 20 ?_ ?_
   ·refine a0q rfl (a2l (p.life.cycles.cells) m0 hU he rfl (i) 10 oM hi rfl rfl rfl) ?_;refine go 1 ?_;refine dT2 16 20 ?_ ?_
    ·refine cV (a2d _ p.life.cycles u.cycles) ?_;refine dH 20 0 ?_;refine a0q rfl (a2l (p.life.damage.cells) m0 hU he rfl (i) 12 oM hi rfl rfl rfl) ?_;refine dH 22 0 ?_;refine cV (a2d _ p.life.damage dd) ?_;refine dH 23 2 ?_;refine a0R _ _ (by first|exact hU|exact hU.set rfl _|exact (hU.set rfl _).set rfl _) he rfl rfl rfl rfl rfl (i) 8 oM (by first|exact hi|exact a0h hi|exact a0h (a0h hi)) (by decide) rfl ?_;refine dH 26 2 ?_;refine a0R _ _ (by first|exact hU|exact hU.set rfl _|exact (hU.set rfl _).set rfl _) he rfl rfl rfl rfl rfl (i) 10 oM (by first|exact hi|exact a0h hi|exact a0h (a0h hi)) (by decide) rfl ?_;refine dH 29 2 ?_;refine a0R _ _ (by first|exact hU|exact hU.set rfl _|exact (hU.set rfl _).set rfl _) he rfl rfl rfl rfl rfl (i) 12 oM (by first|exact hi|exact a0h hi|exact a0h (a0h hi)) (by decide) rfl ?_;refine go 3 ?_;refine a0b ?_;refine a0a ?_;refine a0b ?_;refine a0a ?_;exact b5i (by rw[List.set_set,List.set_set];rfl)
    ·refine a0q rfl (a2l (p.life.damage.cells) m0 hU he rfl (i) 12 oM hi rfl rfl rfl) ?_;refine dH 16 0 ?_;refine cV (a2d _ p.life.cycles u.cycles) ?_;refine dH 22 0 ?_;refine cV (a2d _ p.life.damage dd) ?_;refine dH 23 2 ?_;refine a0R _ _ (by first|exact hU|exact hU.set rfl _|exact (hU.set rfl _).set rfl _) he rfl rfl rfl rfl rfl (i) 8 oM (by first|exact hi|exact a0h hi|exact a0h (a0h hi)) (by decide) rfl ?_;refine dH 26 2 ?_;refine a0R _ _ (by first|exact hU|exact hU.set rfl _|exact (hU.set rfl _).set rfl _) he rfl rfl rfl rfl rfl (i) 10 oM (by first|exact hi|exact a0h hi|exact a0h (a0h hi)) (by decide) rfl ?_;refine dH 29 2 ?_;refine a0R _ _ (by first|exact hU|exact hU.set rfl _|exact (hU.set rfl _).set rfl _) he rfl rfl rfl rfl rfl (i) 12 oM (by first|exact hi|exact a0h hi|exact a0h (a0h hi)) (by decide) rfl ?_;refine go 3 ?_;refine a0b ?_;refine a0a ?_;refine a0b ?_;refine a0a ?_;exact b5i (by rw[List.set_set,List.set_set];rfl)
   ·refine a0q rfl (a2l (p.life.damage.cells) m0 hU he rfl (i) 12 oM hi rfl rfl rfl) ?_;refine dH 13 0 ?_;refine a0q rfl (a2l (p.life.cycles.cells) m0 hU he rfl (i) 10 oM hi rfl rfl rfl) ?_;refine dH 16 0 ?_;refine cV (a2d _ p.life.cycles u.cycles) ?_;refine dH 22 0 ?_;refine cV (a2d _ p.life.damage dd) ?_;refine dH 23 2 ?_;refine a0R _ _ (by first|exact hU|exact hU.set rfl _|exact (hU.set rfl _).set rfl _) he rfl rfl rfl rfl rfl (i) 8 oM (by first|exact hi|exact a0h hi|exact a0h (a0h hi)) (by decide) rfl ?_;refine dH 26 2 ?_;refine a0R _ _ (by first|exact hU|exact hU.set rfl _|exact (hU.set rfl _).set rfl _) he rfl rfl rfl rfl rfl (i) 10 oM (by first|exact hi|exact a0h hi|exact a0h (a0h hi)) (by decide) rfl ?_;refine dH 29 2 ?_;refine a0R _ _ (by first|exact hU|exact hU.set rfl _|exact (hU.set rfl _).set rfl _) he rfl rfl rfl rfl rfl (i) 12 oM (by first|exact hi|exact a0h hi|exact a0h (a0h hi)) (by decide) rfl ?_;refine go 3 ?_;refine a0b ?_;refine a0a ?_;refine a0b ?_;refine a0a ?_;exact b5i (by rw[List.set_set,List.set_set];rfl)
  ·refine a0q rfl (a2l (p.life.cycles.cells) m0 hU he rfl (i) 10 oM hi rfl rfl rfl) ?_;refine go 1 ?_;refine dT2 9 20 ?_ ?_
   ·refine cV (a2d _ p.life.km u.km) ?_;refine go 1 ?_;refine dT2 16 20 ?_ ?_
    ·refine cV (a2d _ p.life.cycles u.cycles) ?_;refine dH 20 0 ?_;refine a0q rfl (a2l (p.life.damage.cells) m0 hU he rfl (i) 12 oM hi rfl rfl rfl) ?_;refine dH 22 0 ?_;refine cV (a2d _ p.life.damage dd) ?_;refine dH 23 2 ?_;refine a0R _ _ (by first|exact hU|exact hU.set rfl _|exact (hU.set rfl _).set rfl _) he rfl rfl rfl rfl rfl (i) 8 oM (by first|exact hi|exact a0h hi|exact a0h (a0h hi)) (by decide) rfl ?_;refine dH 26 2 ?_;refine a0R _ _ (by first|exact hU|exact hU.set rfl _|exact (hU.set rfl _).set rfl _) he rfl rfl rfl rfl rfl (i) 10 oM (by first|exact hi|exact a0h hi|exact a0h (a0h hi)) (by decide) rfl ?_;refine dH 29 2 ?_;refine a0R _ _ (by first|exact hU|exact hU.set rfl _|exact (hU.set rfl _).set rfl _) he rfl rfl rfl rfl rfl (i) 12 oM (by first|exact hi|exact a0h hi|exact a0h (a0h hi)) (by decide) rfl ?_;refine go 3 ?_;refine a0b ?_;refine a0a ?_;refine a0b ?_;refine a0a ?_;exact b5i (by rw[List.set_set,List.set_set];rfl)
    ·refine a0q rfl (a2l (p.life.damage.cells) m0 hU he rfl (i) 12 oM hi rfl rfl rfl) ?_;refine dH 16 0 ?_;refine cV (a2d _ p.life.cycles u.cycles) ?_;refine dH 22 0 ?_;refine cV (a2d _ p.life.damage dd) ?_;refine dH 23 2 ?_;refine a0R _ _ (by first|exact hU|exact hU.set rfl _|exact (hU.set rfl _).set rfl _) he rfl rfl rfl rfl rfl (i) 8 oM (by first|exact hi|exact a0h hi|exact a0h (a0h hi)) (by decide) rfl ?_;refine dH 26 2 ?_;refine a0R _ _ (by first|exact hU|exact hU.set rfl _|exact (hU.set rfl _).set rfl _) he rfl rfl rfl rfl rfl (i) 10 oM (by first|exact hi|exact a0h hi|exact a0h (a0h hi)) (by decide) rfl ?_;refine dH 29 2 ?_;refine a0R _ _ (by first|exact hU|exact hU.set rfl _|exact (hU.set rfl _).set rfl _) he rfl rfl rfl rfl rfl (i) 12 oM (by first|exact hi|exact a0h hi|exact a0h (a0h hi)) (by decide) rfl ?_;refine go 3 ?_;refine a0b ?_;refine a0a ?_;refine a0b ?_;refine a0a ?_;exact b5i (by rw[List.set_set,List.set_set];rfl)
   ·refine a0q rfl (a2l (p.life.damage.cells) m0 hU he rfl (i) 12 oM hi rfl rfl rfl) ?_;refine dH 9 0 ?_;refine cV (a2d _ p.life.km u.km) ?_;refine dH 16 0 ?_;refine cV (a2d _ p.life.cycles u.cycles) ?_;refine dH 22 0 ?_;refine cV (a2d _ p.life.damage dd) ?_;refine dH 23 2 ?_;refine a0R _ _ (by first|exact hU|exact hU.set rfl _|exact (hU.set rfl _).set rfl _) he rfl rfl rfl rfl rfl (i) 8 oM (by first|exact hi|exact a0h hi|exact a0h (a0h hi)) (by decide) rfl ?_;refine dH 26 2 ?_;refine a0R _ _ (by first|exact hU|exact hU.set rfl _|exact (hU.set rfl _).set rfl _) he rfl rfl rfl rfl rfl (i) 10 oM (by first|exact hi|exact a0h hi|exact a0h (a0h hi)) (by decide) rfl ?_;refine dH 29 2 ?_;refine a0R _ _ (by first|exact hU|exact hU.set rfl _|exact (hU.set rfl _).set rfl _) he rfl rfl rfl rfl rfl (i) 12 oM (by first|exact hi|exact a0h hi|exact a0h (a0h hi)) (by decide) rfl ?_;refine go 3 ?_;refine a0b ?_;refine a0a ?_;refine a0b ?_;refine a0a ?_;exact b5i (by rw[List.set_set,List.set_set];rfl)
  ·refine a0q rfl (a2l (p.life.damage.cells) m0 hU he rfl (i) 12 oM hi rfl rfl rfl) ?_;refine go 1 ?_;refine dT2 9 13 ?_ ?_
   ·refine cV (a2d _ p.life.km u.km) ?_;refine dH 13 0 ?_;refine a0q rfl (a2l (p.life.cycles.cells) m0 hU he rfl (i) 10 oM hi rfl rfl rfl) ?_;refine dH 16 0 ?_;refine cV (a2d _ p.life.cycles u.cycles) ?_;refine dH 22 0 ?_;refine cV (a2d _ p.life.damage dd) ?_;refine dH 23 2 ?_;refine a0R _ _ (by first|exact hU|exact hU.set rfl _|exact (hU.set rfl _).set rfl _) he rfl rfl rfl rfl rfl (i) 8 oM (by first|exact hi|exact a0h hi|exact a0h (a0h hi)) (by decide) rfl ?_;refine dH 26 2 ?_;refine a0R _ _ (by first|exact hU|exact hU.set rfl _|exact (hU.set rfl _).set rfl _) he rfl rfl rfl rfl rfl (i) 10 oM (by first|exact hi|exact a0h hi|exact a0h (a0h hi)) (by decide) rfl ?_;refine dH 29 2 ?_;refine a0R _ _ (by first|exact hU|exact hU.set rfl _|exact (hU.set rfl _).set rfl _) he rfl rfl rfl rfl rfl (i) 12 oM (by first|exact hi|exact a0h hi|exact a0h (a0h hi)) (by decide) rfl ?_;refine go 3 ?_;refine a0b ?_;refine a0a ?_;refine a0b ?_;refine a0a ?_;exact b5i (by rw[List.set_set,List.set_set];rfl)
   ·refine a0q rfl (a2l (p.life.cycles.cells) m0 hU he rfl (i) 10 oM hi rfl rfl rfl) ?_;refine dH 9 0 ?_;refine cV (a2d _ p.life.km u.km) ?_;refine dH 16 0 ?_;refine cV (a2d _ p.life.cycles u.cycles) ?_;refine dH 22 0 ?_;refine cV (a2d _ p.life.damage dd) ?_;refine dH 23 2 ?_;refine a0R _ _ (by first|exact hU|exact hU.set rfl _|exact (hU.set rfl _).set rfl _) he rfl rfl rfl rfl rfl (i) 8 oM (by first|exact hi|exact a0h hi|exact a0h (a0h hi)) (by decide) rfl ?_;refine dH 26 2 ?_;refine a0R _ _ (by first|exact hU|exact hU.set rfl _|exact (hU.set rfl _).set rfl _) he rfl rfl rfl rfl rfl (i) 10 oM (by first|exact hi|exact a0h hi|exact a0h (a0h hi)) (by decide) rfl ?_;refine dH 29 2 ?_;refine a0R _ _ (by first|exact hU|exact hU.set rfl _|exact (hU.set rfl _).set rfl _) he rfl rfl rfl rfl rfl (i) 12 oM (by first|exact hi|exact a0h hi|exact a0h (a0h hi)) (by decide) rfl ?_;refine go 3 ?_;refine a0b ?_;refine a0a ?_;refine a0b ?_;refine a0a ?_;exact b5i (by rw[List.set_set,List.set_set];rfl)
 ·refine a0q rfl (a2l (p.life.cycles.cells) m0 hU he rfl (i) 10 oM hi rfl rfl rfl) ?_;refine go 1 ?_;refine dT2 6 20 ?_ ?_
  ·refine a0q rfl (a2l (p.life.km.cells) m0 hU he rfl (i) 8 oM hi rfl rfl rfl) ?_;refine go 1 ?_;refine dT2 9 20 ?_ ?_
   ·refine cV (a2d _ p.life.km u.km) ?_;refine go 1 ?_;refine dT2 16 20 ?_ ?_
    ·refine cV (a2d _ p.life.cycles u.cycles) ?_;refine dH 20 0 ?_;refine a0q rfl (a2l (p.life.damage.cells) m0 hU he rfl (i) 12 oM hi rfl rfl rfl) ?_;refine dH 22 0 ?_;refine cV (a2d _ p.life.damage dd) ?_;refine dH 23 2 ?_;refine a0R _ _ (by first|exact hU|exact hU.set rfl _|exact (hU.set rfl _).set rfl _) he rfl rfl rfl rfl rfl (i) 8 oM (by first|exact hi|exact a0h hi|exact a0h (a0h hi)) (by decide) rfl ?_;refine dH 26 2 ?_;refine a0R _ _ (by first|exact hU|exact hU.set rfl _|exact (hU.set rfl _).set rfl _) he rfl rfl rfl rfl rfl (i) 10 oM (by first|exact hi|exact a0h hi|exact a0h (a0h hi)) (by decide) rfl ?_;refine dH 29 2 ?_;refine a0R _ _ (by first|exact hU|exact hU.set rfl _|exact (hU.set rfl _).set rfl _) he rfl rfl rfl rfl rfl (i) 12 oM (by first|exact hi|exact a0h hi|exact a0h (a0h hi)) (by decide) rfl ?_;refine go 3 ?_;refine a0b ?_;refine a0a ?_;refine a0b ?_;refine a0a ?_;exact b5i (by rw[List.set_set,List.set_set];rfl)
    ·refine a0q rfl (a2l (p.life.damage.cells) m0 hU he rfl (i) 12 oM hi rfl rfl rfl) ?_;refine dH 16 0 ?_;refine cV (a2d _ p.life.cycles u.cycles) ?_;refine dH 22 0 ?_;refine cV (a2d _ p.life.damage dd) ?_;refine dH 23 2 ?_;refine a0R _ _ (by first|exact hU|exact hU.set rfl _|exact (hU.set rfl _).set rfl _) he rfl rfl rfl rfl rfl (i) 8 oM (by first|exact hi|exact a0h hi|exact a0h (a0h hi)) (by decide) rfl ?_;refine dH 26 2 ?_;refine a0R _ _ (by first|exact hU|exact hU.set rfl _|exact (hU.set rfl _).set rfl _) he rfl rfl rfl rfl rfl (i) 10 oM (by first|exact hi|exact a0h hi|exact a0h (a0h hi)) (by decide) rfl ?_;refine dH 29 2 ?_;refine a0R _ _ (by first|exact hU|exact hU.set rfl _|exact (hU.set rfl _).set rfl _) he rfl rfl rfl rfl rfl (i) 12 oM (by first|exact hi|exact a0h hi|exact a0h (a0h hi)) (by decide) rfl ?_;refine go 3 ?_;refine a0b ?_;refine a0a ?_;refine a0b ?_;refine a0a ?_;exact b5i (by rw[List.set_set,List.set_set];rfl)
   ·refine a0q rfl (a2l (p.life.damage.cells) m0 hU he rfl (i) 12 oM hi rfl rfl rfl) ?_;refine dH 9 0 ?_;refine cV (a2d _ p.life.km u.km) ?_;refine dH 16 0 ?_;refine cV (a2d _ p.life.cycles u.cycles) ?_;refine dH 22 0 ?_;refine cV (a2d _ p.life.damage dd) ?_;refine dH 23 2 ?_;refine a0R _ _ (by first|exact hU|exact hU.set rfl _|exact (hU.set rfl _).set rfl _) he rfl rfl rfl rfl rfl (i) 8 oM (by first|exact hi|exact a0h hi|exact a0h (a0h hi)) (by decide) rfl ?_;refine dH 26 2 ?_;refine a0R _ _ (by first|exact hU|exact hU.set rfl _|exact (hU.set rfl _).set rfl _) he rfl rfl rfl rfl rfl (i) 10 oM (by first|exact hi|exact a0h hi|exact a0h (a0h hi)) (by decide) rfl ?_;refine dH 29 2 ?_;refine a0R _ _ (by first|exact hU|exact hU.set rfl _|exact (hU.set rfl _).set rfl _) he rfl rfl rfl rfl rfl (i) 12 oM (by first|exact hi|exact a0h hi|exact a0h (a0h hi)) (by decide) rfl ?_;refine go 3 ?_;refine a0b ?_;refine a0a ?_;refine a0b ?_;refine a0a ?_;exact b5i (by rw[List.set_set,List.set_set];rfl)
  ·refine a0q rfl (a2l (p.life.damage.cells) m0 hU he rfl (i) 12 oM hi rfl rfl rfl) ?_;refine dH 6 0 ?_;refine a0q rfl (a2l (p.life.km.cells) m0 hU he rfl (i) 8 oM hi rfl rfl rfl) ?_;refine dH 9 0 ?_;refine cV (a2d _ p.life.km u.km) ?_;refine dH 16 0 ?_;refine cV (a2d _ p.life.cycles u.cycles) ?_;refine dH 22 0 ?_;refine cV (a2d _ p.life.damage dd) ?_;refine dH 23 2 ?_;refine a0R _ _ (by first|exact hU|exact hU.set rfl _|exact (hU.set rfl _).set rfl _) he rfl rfl rfl rfl rfl (i) 8 oM (by first|exact hi|exact a0h hi|exact a0h (a0h hi)) (by decide) rfl ?_;refine dH 26 2 ?_;refine a0R _ _ (by first|exact hU|exact hU.set rfl _|exact (hU.set rfl _).set rfl _) he rfl rfl rfl rfl rfl (i) 10 oM (by first|exact hi|exact a0h hi|exact a0h (a0h hi)) (by decide) rfl ?_;refine dH 29 2 ?_;refine a0R _ _ (by first|exact hU|exact hU.set rfl _|exact (hU.set rfl _).set rfl _) he rfl rfl rfl rfl rfl (i) 12 oM (by first|exact hi|exact a0h hi|exact a0h (a0h hi)) (by decide) rfl ?_;refine go 3 ?_;refine a0b ?_;refine a0a ?_;refine a0b ?_;refine a0a ?_;exact b5i (by rw[List.set_set,List.set_set];rfl)
 ·refine a0q rfl (a2l (p.life.damage.cells) m0 hU he rfl (i) 12 oM hi rfl rfl rfl) ?_;refine go 1 ?_;refine dT2 6 13 ?_ ?_
  ·refine a0q rfl (a2l (p.life.km.cells) m0 hU he rfl (i) 8 oM hi rfl rfl rfl) ?_;refine go 1 ?_;refine dT2 9 13 ?_ ?_
   ·refine cV (a2d _ p.life.km u.km) ?_;refine dH 13 0 ?_;refine a0q rfl (a2l (p.life.cycles.cells) m0 hU he rfl (i) 10 oM hi rfl rfl rfl) ?_;refine dH 16 0 ?_;refine cV (a2d _ p.life.cycles u.cycles) ?_;refine dH 22 0 ?_;refine cV (a2d _ p.life.damage dd) ?_;refine dH 23 2 ?_;refine a0R _ _ (by first|exact hU|exact hU.set rfl _|exact (hU.set rfl _).set rfl _) he rfl rfl rfl rfl rfl (i) 8 oM (by first|exact hi|exact a0h hi|exact a0h (a0h hi)) (by decide) rfl ?_;refine dH 26 2 ?_;refine a0R _ _ (by first|exact hU|exact hU.set rfl _|exact (hU.set rfl _).set rfl _) he rfl rfl rfl rfl rfl (i) 10 oM (by first|exact hi|exact a0h hi|exact a0h (a0h hi)) (by decide) rfl ?_;refine dH 29 2 ?_;refine a0R _ _ (by first|exact hU|exact hU.set rfl _|exact (hU.set rfl _).set rfl _) he rfl rfl rfl rfl rfl (i) 12 oM (by first|exact hi|exact a0h hi|exact a0h (a0h hi)) (by decide) rfl ?_;refine go 3 ?_;refine a0b ?_;refine a0a ?_;refine a0b ?_;refine a0a ?_;exact b5i (by rw[List.set_set,List.set_set];rfl)
   ·refine a0q rfl (a2l (p.life.cycles.cells) m0 hU he rfl (i) 10 oM hi rfl rfl rfl) ?_;refine dH 9 0 ?_;refine cV (a2d _ p.life.km u.km) ?_;refine dH 16 0 ?_;refine cV (a2d _ p.life.cycles u.cycles) ?_;refine dH 22 0 ?_;refine cV (a2d _ p.life.damage dd) ?_;refine dH 23 2 ?_;refine a0R _ _ (by first|exact hU|exact hU.set rfl _|exact (hU.set rfl _).set rfl _) he rfl rfl rfl rfl rfl (i) 8 oM (by first|exact hi|exact a0h hi|exact a0h (a0h hi)) (by decide) rfl ?_;refine dH 26 2 ?_;refine a0R _ _ (by first|exact hU|exact hU.set rfl _|exact (hU.set rfl _).set rfl _) he rfl rfl rfl rfl rfl (i) 10 oM (by first|exact hi|exact a0h hi|exact a0h (a0h hi)) (by decide) rfl ?_;refine dH 29 2 ?_;refine a0R _ _ (by first|exact hU|exact hU.set rfl _|exact (hU.set rfl _).set rfl _) he rfl rfl rfl rfl rfl (i) 12 oM (by first|exact hi|exact a0h hi|exact a0h (a0h hi)) (by decide) rfl ?_;refine go 3 ?_;refine a0b ?_;refine a0a ?_;refine a0b ?_;refine a0a ?_;exact b5i (by rw[List.set_set,List.set_set];rfl)
  ·refine a0q rfl (a2l (p.life.cycles.cells) m0 hU he rfl (i) 10 oM hi rfl rfl rfl) ?_;refine dH 6 0 ?_;refine a0q rfl (a2l (p.life.km.cells) m0 hU he rfl (i) 8 oM hi rfl rfl rfl) ?_;refine dH 9 0 ?_;refine cV (a2d _ p.life.km u.km) ?_;refine dH 16 0 ?_;refine cV (a2d _ p.life.cycles u.cycles) ?_;refine dH 22 0 ?_;refine cV (a2d _ p.life.damage dd) ?_;refine dH 23 2 ?_;refine a0R _ _ (by first|exact hU|exact hU.set rfl _|exact (hU.set rfl _).set rfl _) he rfl rfl rfl rfl rfl (i) 8 oM (by first|exact hi|exact a0h hi|exact a0h (a0h hi)) (by decide) rfl ?_;refine dH 26 2 ?_;refine a0R _ _ (by first|exact hU|exact hU.set rfl _|exact (hU.set rfl _).set rfl _) he rfl rfl rfl rfl rfl (i) 10 oM (by first|exact hi|exact a0h hi|exact a0h (a0h hi)) (by decide) rfl ?_;refine dH 29 2 ?_;refine a0R _ _ (by first|exact hU|exact hU.set rfl _|exact (hU.set rfl _).set rfl _) he rfl rfl rfl rfl rfl (i) 12 oM (by first|exact hi|exact a0h hi|exact a0h (a0h hi)) (by decide) rfl ?_;refine go 3 ?_;refine a0b ?_;refine a0a ?_;refine a0b ?_;refine a0a ?_;exact b5i (by rw[List.set_set,List.set_set];rfl)
theorem c2K (I:IMap) (x:Evt) (g:Nat) (day:Int) (cg:ICells I g 0 [ci day]) :
    FnV prog 55 #[.agg (Day.ch x).toArray,.pointer (some ⟨g,0,none⟩)] I (.bool (decide (x.day>day))):=by
 refine enter func55 call55 rfl ntmps55 rfl fun w0=>?_
 show SX _ _ _ (a9V [.agg x.cells.toArray,.pointer (some ⟨g,0,none⟩)] 0) _ _
 refine go 4 fun g2=>?_
 refine go 7 ?_;refine o_v rfl (a0v he rfl (cg 0 _ rfl)) ?_;refine go 6 ?_;exact q_v rfl
theorem b3r (I:IMap) (vc:Value) (c:List Kind) (hvc:RdS I vc c) (hsc:SmC c) (f:Fm) (sf:Value) (hf:FmRd I [ci f.op,ci f.n,sf] f) (v:Value) (l:List Evt) (hv:RdS I v l) (hl:l.length≤25) (hse:∀e∈l,SmE e) (day:Int) :
    FnI prog 14 #[.agg #[vc,ci f.op,ci f.n,sf],v,.int .i64 day] I (fun u J=>∃w,u = .tuple #[.agg #[w],.int .i64 (runL f c l day).2.1,.int .i64 (runL f c l day).2.2]∧RdS J w (runL f c l day).1):=by
 obtain⟨U,hUe⟩:∃U,a1N (l.filter fun e=>!decide (e.day>day))=U:=⟨_,rfl⟩;have hUl:U.length≤25:=by rw[←hUe,a4B];exact Nat.le_trans (List.length_filter_le _ _) hl
 have hUs:∀e∈U,SmE e:=fun e he=>hse e (List.mem_filter.1 (a7X.1 (hUe▸he))).1
 refine enter func14 call14 rfl ntmps14 rfl fun w0=>?_;refine go 4 fun g3=>?_
 refine go 2 fun g5=>?_
 refine go 2 fun g6=>?_
 refine go 6 ?_;refine a1V (I':=I) (L':=[(1,v),(3,.pointer (some ⟨g3,0,none⟩)),(5,.pointer (some ⟨g5,0,none⟩)),(6,.pointer (some ⟨g6,0,none⟩)),(27,.bool (!a1I c || !a2L f))]) (H':=[.blk g3 29 [vc,ci f.op,ci f.n,sf],.blk g5 3 [ci day],.blk g6 62 [.slice none 0 0]]) ?_ ?_
 ·refine go 2 ?_;refine o_v rfl (a1R ([vc]) m2 he rfl rfl rfl) ?_;refine go 1 ?_;refine cV (a7g _ vc c hvc hsc) ?_;refine gS 2 22 (fun h22 p22=>?_) fun h22 p22=>?_
  ·refine go 7 ?_;refine a0b ?_;refine a0d ?_;exact a0r ⟨rfl,rfl,rfl,rfl,(bB (by simp only[h22,bS])),trivial⟩ rfl rfl
  ·refine go 1 ?_;refine a0z (a0n rfl rfl h22 (a0q rfl (a1R ([ci f.op,ci f.n,sf]) m2 he rfl rfl rfl) ?_));refine go 1 ?_;refine a0n rfl rfl h22 (a0y (c2o _ f _ hf) rfl rfl ?_);refine go 4 ?_;refine a0b ?_;refine a0d ?_;exact a0r ⟨rfl,rfl,rfl,rfl,(bB (by simp only[h22,bS])),trivial⟩ rfl rfl
 ·refine gC 0 (fun h27 p27=>?_) fun h27 p27=>?_
  ·refine go 4 ?_;refine a0d ?_;refine go 8 ?_;exact q_i ⟨_,by rw[b8Q h27],by rw[b8Q h27];exact RdS.nil'⟩
  ·refine go 6 ?_;refine a0b ?_;refine a0A fun Ig5 jg5 cg5=>?_;have hvc:=hvc.le jg5;have hv:=hv.le jg5;have hf:=hf.le jg5;refine a1X (b4k _ v l hv oM) rfl rfl fun v30 s30 q30=>?_;obtain⟨xss,rfl,hx⟩:=q30;obtain rfl:=b5Z hx;refine go 2 ?_;refine b0O (a6I _ _ l oM 55 [.pointer (some ⟨g5,0,none⟩)] (fun x=>decide (x.day>day)) (fun I2 hI2 x=>c2K I2 x g5 day (cg5.le hI2))) rfl rfl fun v32 I32 j32 q32=>?_;have hvc:=hvc.le j32;have hf:=hf.le j32;refine go 7 fun g10=>?_
   refine go 7 ?_;refine a0m (d3F _ _ (l.filter fun e=>!decide (e.day>day)) q32 (Nat.le_trans (List.length_filter_le _ _) oM)) rfl rfl fun v34 I34 j34 q34=>?_;have hvc:=hvc.le j34;have hf:=hf.le j34;rw[hUe]at q34
   have R34:=q34;obtain⟨A34,c34,rfl,hA34,_,_⟩:=q34;refine go 5 ?_;refine a0b ?_;refine a0d ?_;refine a0d ?_
   refine a3A ((0:Nat)) ([]) (.slice none 0 0) (I34) (fun i st v10 J=>J)
    (fun i st v10 J=>[(3,.pointer (some ⟨g3,0,none⟩)),(6,.pointer (some ⟨g6,0,none⟩)),(10,.pointer (some ⟨g10,0,none⟩)),(34,.slice A34 U.length c34),(35,.int .i64 ((U.length:Nat):Int)),(36,.int .i64 ((i:Nat):Int))])
    (fun i st v10 J=>[.blk g10 62 [v10],.blk g6 62 [.slice none 0 0],.blk g3 29 [vc,ci f.op,ci f.n,sf]])
    (fun i st v10 J=>i≤U.length∧ILe I34 J∧RdS J v10 st∧SmF st∧a7k st≤i∧runLGo f c st (i:Nat) (U.drop i)=runL f c l day)
    (fun i st v10 J=>U.length-i) ⟨Nat.zero_le _,ILe.refl _,RdS.nil',SmF.nil,Nat.le_refl _,by rw[d2j h27,hUe];rfl⟩ rfl sb rfl ?_
   intro i st v10 J ⟨hi,hJ,hv10,hsf,hcn,hgo⟩;have hvc:=hvc.le hJ;have hf:=hf.le hJ;have hA34:=hA34.le hJ;refine gC 6 (fun h37 p37=>?_) fun h37 p37=>?_
   ·have hlt:i<U.length:=oM;refine go 7 ?_;obtain⟨b39,o39,w39,e39,c39,r39⟩:=RdA.at_ hA34 (i:=i) oM;obtain rfl:=r39;refine go 4 fun g12=>?_
    refine go 8 ?_;refine o_v rfl (a1R ([vc]) m3 he rfl rfl rfl) ?_;refine go 3 ?_;refine a0m (b6i _ vc c hvc hsc v10 st hv10 hsf U[i] (hUs _ (List.getElem_mem hlt))) rfl rfl fun v46 I46 j46 q46=>?_;have hvc:=hvc.le j46;have hf:=hf.le j46;have hA34:=hA34.le j46;obtain⟨w46,rfl,hw46⟩:=q46;refine go 5 fun g13=>?_
    refine go 1 ?_;refine a0Y _ he rfl rfl rfl rfl rfl (by simp[RdS.one hw46]) ?_;refine gC 10 (fun h50 p50=>?_) fun h50 p50=>?_
    ·refine go 6 ?_;refine a0u ?_;refine go 13 ?_;have hr:runL f c l day=([],((i:Nat):Int),(a0j c st U[i]).2):=by rw[←hgo,c6l hlt p50]
     exact q_i ⟨_,by rw[hr]<;>rfl,by rw[hr];exact RdS.nil'⟩
    ·have h0:(a0j c st U[i]).2=0:=by simpa using h50
     have hsm:=a9T (c:=c) hsf (hUs _ (List.getElem_mem hlt));have hc1:=b4m h0;have hc2:(a0j c st U[i]).1.length+b1X (a0j c st U[i]).1≤i+1:=by unfold a7k at *;omega
     have hfl:b1X (a0j c st U[i]).1≤(a0j c st U[i]).1.length:=List.length_filter_le _ _;have hfn:b1X (a0j c st U[i]).1≤12:=oM;refine go 7 ?_;refine a0d ?_;refine a0Y _ he rfl rfl rfl rfl rfl (by simp[RdS.one hw46]) ?_;refine gC 9 (fun h57 p57=>?_) fun h57 p57=>?_
     ·refine go 9 ?_;refine a0b ?_;refine a0a ?_;refine a0b ?_;refine a0a ?_;exact a1G (i+1) ((a0j c st U[i]).1) (w46) (I46) ⟨oM,hJ.trans j46,hw46,hsm,oM,(c2t hlt h0 p57).symm.trans hgo⟩ oM rfl sb rfl
     ·have h4:U[i].op=4:=by simpa using h57
      refine go 3 ?_;refine c1r (Ix:=(fun v15 ns ys=>I46)) (Lx:=(fun v15 ns ys=>[(3,.pointer (some ⟨g3,0,none⟩)),(6,.pointer (some ⟨g6,0,none⟩)),(10,.pointer (some ⟨g10,0,none⟩)),(34,.slice A34 U.length c34),(35,.int .i64 ((U.length:Nat):Int)),(36,.int .i64 ((i:Nat):Int)),(12,.pointer (some ⟨g12,0,none⟩)),(15,v15)])) (Hx:=(fun v15 ns ys=>[.row v15 9 1 (ns++[U[i].part]).length ys,.blk g10 62 [w46],.blk g12 130 U[i].cells,.blk g6 62 [.slice none 0 0],.blk g3 29 [vc,ci f.op,ci f.n,sf]])) (p:=(fun v15 ns ys=>Flat I46 ys (ns++[U[i].part])∧∀n,n∈ns↔a7c (a0j c st U[i]).1 U[i].part n)) ?_ ?_
      ·refine go 1 ?_;refine dG 0 3 ?_;refine dG 4 2 ?_;refine dT2 3 6 ?_ ?_
       ·refine a1X (a7r _ _ (a0j c st U[i]).1 hw46 U[i].part hfn) rfl rfl fun v61 s61 q61=>?_;obtain⟨ns,rfl,hns,hnl,_⟩:=q61;refine dH 6 0 ?_;refine go 1 fun v64=>?_
        refine dH 7 0 ?_;refine a0b ?_;refine a0O he he rfl rfl rfl rfl rfl oM oM rfl fun v65=>?_;refine dG 8 1 ?_;refine go 2 ?_;refine a0b ?_;refine a0a ?_;refine a0d ?_;refine a0a ?_;exact a5B (_) (ns) (_) ⟨(a2T _ ns).flat.append (.one rfl),hns⟩ sb (by rw[List.length_append];rfl) rfl
       ·refine go 1 fun v64=>?_
        refine dH 3 0 ?_;refine a1X (a7r _ _ (a0j c st U[i]).1 hw46 U[i].part hfn) rfl rfl fun v61 s61 q61=>?_;obtain⟨ns,rfl,hns,hnl,_⟩:=q61;refine dH 7 0 ?_;refine a0b ?_;refine a0b ?_;refine a0O he he rfl rfl rfl rfl rfl oM oM rfl fun v65=>?_;refine dG 8 1 ?_;refine go 2 ?_;refine a0b ?_;refine a0a ?_;refine a0d ?_;refine a0a ?_;exact a5B (_) (ns) (_) ⟨(a2T _ ns).flat.append (.one rfl),hns⟩ sb (by rw[List.length_append];rfl) rfl
      ·intro v15 ns ys ⟨hF15,hns⟩;refine go 2 ?_;refine a0i (l:=(ns++[U[i].part])) rfl rfl (hF15) fun I66 j66 R66=>?_;have hvc:=hvc.le j66;have hf:=hf.le j66;have hA34:=hA34.le j66;have hw46:=hw46.le j66;have R66s:=R66;obtain⟨A15,c15,rfl,_,_,_⟩:=R66s;refine go 1 ?_;refine o_v rfl (a1R ([ci f.op,ci f.n,sf]) m3 he rfl rfl rfl) ?_;refine go 1 ?_;refine o_v rfl (a1R (U[i].use.cells) m1 he rfl rfl rfl) ?_;refine go 1 ?_;refine cV (c6j _ f _ hf U[i].use) ?_;refine go 2 fun g16=>?_
       refine go 9 ?_;refine a1X (b1R _ _ (a0j c st U[i]).1 hw46 oM) rfl rfl fun v73 s73 q73=>?_;obtain⟨xss,rfl,hx⟩:=q73;have hpos:0<(a0j c st U[i]).1.length:=by rw[c1h h0 h4];exact d2k h0 h4
       refine a6O hx.uk hx.len (fun h9 _=>absurd h9 oM) fun g73 cap73 rest73 e73 hR73 hc73 hm73=>?_;subst e73;refine go 2 ?_;refine a0d ?_;refine go 12 ?_;refine a3w ?_;refine a3w ?_;refine a3w ?_;refine a0u ?_;refine a3w ?_;refine a3w ?_
       refine a0B ((0:Nat)) (xss) (fun k xss=>I66)
        (fun k xss=>[(3,.pointer (some ⟨g3,0,none⟩)),(6,.pointer (some ⟨g6,0,none⟩)),(10,.pointer (some ⟨g10,0,none⟩)),(34,.slice A34 U.length c34),(35,.int .i64 ((U.length:Nat):Int)),(36,.int .i64 ((i:Nat):Int)),(12,.pointer (some ⟨g12,0,none⟩)),(15,.slice A15 (ns++[U[i].part]).length c15),(16,.pointer (some ⟨g16,0,none⟩)),(77,.int .i64 (((a0j c st U[i]).1.length:Nat):Int)),(78,.int .i64 ((k:Nat):Int))])
        (fun k xss=>[.blk g73 85 (xss++rest73).flatten,.blk g16 81 (b2S f U[i].use).cells,.blk g10 62 [.slice (some ⟨g73,0,none⟩) (a0j c st U[i]).1.length cap73],.blk g12 130 U[i].cells,.blk g6 62 [.slice none 0 0],.blk g3 29 [vc,ci f.op,ci f.n,sf]])
        (fun k xss=>k≤(a0j c st U[i]).1.length∧FlatC I66 xss (useUp (a0j c st U[i]).1 U[i] (b2S f U[i].use) k))
        (fun k xss=>(a0j c st U[i]).1.length-k) ⟨Nat.zero_le _,by rw[c0O];exact hx⟩ rfl sb rfl ?_
       intro k xss ⟨hk,hx⟩;refine gC 6 (fun h79 p79=>?_) fun h79 p79=>?_
       ·have hlk:k<(a0j c st U[i]).1.length:=oM;have hlx:k<xss.length:=by rw[hx.len,b5C];exact hlk
        obtain⟨q,hkc,hq⟩:=c5B hx (b9d hlk) rest73;have hU14:Uk 14 (xss++rest73):=hx.uk.append hR73;refine go 16 ?_;refine o_v rfl (a0l he rfl rfl rfl (k) oM oM) ?_;refine go 1 ?_;refine o_v rfl (d5R m0 hU14 he rfl (k) 0 oM hkc rfl) ?_;refine go 1 ?_;refine cV (a3m _ _ (ns++[U[i].part]) R66 _) ?_;refine gC 2 (fun h88 p88=>?_) fun h88 p88=>?_
        ·refine ds1 ?_;refine dG 0 3 ?_;refine a0F 3 rfl rfl (by kernel_rfl) rfl (.cons _ (.refl _)) rfl (a0l he rfl rfl rfl (k) oM oM) ?_;refine dG 4 2 ?_;refine a0F 6 rfl rfl (by kernel_rfl) rfl (.cons _ (.refl _)) rfl (a1R (U[i].use.cells) m2 he rfl rfl rfl) ?_;refine dH 7 1 ?_;refine a2V (d1a _ g73 85 k hU14 (a0j c st U[i]).1[k] q hkc U[i].use (b2S f U[i].use) _ oM) rfl rfl ?_;refine go 9 ?_;exact a0o (k+1) (_) ⟨oM,by rw[b2C hlk,c8t hlk hns p88];exact hx.set (x:=a9P (b2S f U[i].use) U[i].use (a0j c st U[i]).1[k]) ⟨q,rfl,hq⟩ k⟩ oM rfl sb (by rw[List.set_append_left _ _ hlx])
        ·refine go 8 ?_;exact a0o (k+1) (_) ⟨oM,by rw[c8r hlk hns p88];exact hx⟩ oM rfl sb rfl
       ·obtain rfl:k=(a0j c st U[i]).1.length:=oM;rw[c4F]at hx
        refine a2e hx.uk hR73 (by rw[hx.len,use_len]) hc73 hm73 ?_;refine a0i (l:=useL (a0j c st U[i]).1 U[i] (b2S f U[i].use)) rfl use_len.symm hx.flat fun I9 j9 R9=>?_;refine go 11 ?_;refine a0a ?_;refine a0b ?_;refine a0a ?_;exact a1G (i+1) (useL (a0j c st U[i]).1 U[i] (b2S f U[i].use)) (_) (I9) ⟨oM,hJ.trans (j46.trans (j66.trans j9)),R9,d5P hsm,by rw[c1G];omega,(d0L hlt h0 h4).symm.trans hgo⟩ oM rfl sb rfl
   ·refine go 9 ?_;refine a0b ?_;refine a0Y _ he rfl rfl rfl rfl rfl (by simp[RdS.one hv10]) ?_;refine go 6 ?_;have hr:runL f c l day=(st,-1,0):=by rw[←hgo,d0K oM]
    exact q_i ⟨_,by rw[hr]<;>rfl,by rw[hr];exact hv10⟩
end Go.Proofs.YtgmkjpafapgccaaGreat
namespace Go.Proofs.YtgmkjpafapgccaaGreat
open Go Go.Sx Tryz
set_option linter.all false
set_option maxRecDepth 20000
set_option maxHeartbeats 4000000
instance:Has (tyK prog 406) (false,1):=hk
instance:Has (prog.underlying 362) (.map 9 360):=hk
instance:Has (a1o prog 406) [.nilFunc]:=hk
instance:Has (zvK prog 360) (.nilFunc):=hk
theorem b4K (I:IMap) (day a:Int) (hd:0≤day∧day≤40000) :
    FnV prog 298 #[.int .i64 (day),.int .i64 (a)] I (.agg (b1h day a).cells.toArray):=by
 refine enter func298 call298 rfl ntmps298 rfl fun w0=>?_;refine go 4 fun g4=>?_
 refine gC 10 (fun h8 p8=>?_) fun h8 p8=>?_
 ·refine go 10 ?_;exact q_v (by unfold b1h;rw[if_pos p8];rfl)
 ·refine go 8 ?_;refine o_v rfl (OV.cast (u:=.int .i64 (max a (day-(1000000000000:Int)))) (a5L rfl rfl) (congrArg (Value.int .i64) oM)) ?_;refine go 15 ?_;exact q_v (by unfold b1h;rw[if_neg p8];rfl)
theorem d3Q (I:IMap) (p:Part) (q:Value) (day:Int) (hd:0≤day∧day≤40000) :
    FnV prog 299 #[.agg (p.cells q).toArray,.int .i64 (day)] I (.agg p.life.km.cells.toArray):=by
 refine enter func299 call299 rfl ntmps299 rfl fun w0=>?_;refine go 4 fun g2=>?_
 refine go 2 fun g4=>?_
 refine go 6 ?_;refine o_v rfl (a1R (p.life.km.cells) m1 he rfl rfl rfl) ?_;refine go 6 ?_;exact q_v rfl
theorem b9B (I:IMap) (p:Part) (q:Value) (day:Int) (hd:0≤day∧day≤40000) :
    FnV prog 300 #[.agg (p.cells q).toArray,.int .i64 (day)] I (.agg p.life.cycles.cells.toArray):=by
 refine enter func300 call300 rfl ntmps300 rfl fun w0=>?_;refine go 4 fun g2=>?_
 refine go 2 fun g4=>?_
 refine go 6 ?_;refine o_v rfl (a1R (p.life.cycles.cells) m1 he rfl rfl rfl) ?_;refine go 6 ?_;exact q_v rfl
theorem b9C (I:IMap) (p:Part) (q:Value) (day:Int) (hd:0≤day∧day≤40000) :
    FnV prog 301 #[.agg (p.cells q).toArray,.int .i64 (day)] I (.agg p.life.damage.cells.toArray):=by
 refine enter func301 call301 rfl ntmps301 rfl fun w0=>?_;refine go 4 fun g2=>?_
 refine go 2 fun g4=>?_
 refine go 6 ?_;refine o_v rfl (a1R (p.life.damage.cells) m1 he rfl rfl rfl) ?_;refine go 6 ?_;exact q_v rfl
theorem c1H (I:IMap) (p:Part) (q:Value) (day:Int) (hd:0≤day∧day≤40000) (g:Nat) (hg:ICells I g 0 [.func (.func 298) #[] #[]]) :
    FnV prog 302 #[.agg (p.cells q).toArray,.int .i64 (day),.pointer (some ⟨g,0,none⟩)] I (.agg (b1h day p.since).cells.toArray):=by
 refine enter func302 call302 rfl ntmps302 rfl fun w0=>?_;refine go 4 fun g3=>?_
 refine go 2 fun g5=>?_
 refine go 4 ?_;refine o_v rfl (a0v he rfl (hg 0 _ rfl)) ?_;refine go 4 ?_;refine cV (b4K _ day p.since hd) ?_;refine go 6 ?_;exact q_v rfl
theorem c5J (I:IMap) (p:Part) (q:Value) (day:Int) (hd:0≤day∧day≤40000) (g:Nat) (hg:ICells I g 0 [.func (.func 298) #[] #[]]) :
    FnV prog 303 #[.agg (p.cells q).toArray,.int .i64 (day),.pointer (some ⟨g,0,none⟩)] I (.agg (b1h day p.made).cells.toArray):=by
 refine enter func303 call303 rfl ntmps303 rfl fun w0=>?_;refine go 4 fun g3=>?_
 refine go 2 fun g5=>?_
 refine go 4 ?_;refine o_v rfl (a0v he rfl (hg 0 _ rfl)) ?_;refine go 4 ?_;refine cV (b4K _ day p.made hd) ?_;refine go 6 ?_;exact q_v rfl
def d3P (g:Nat):List (ByteArray×Value):=[(sKm,.func (.func 299) #[] #[]),(a2Z,.func (.func 300) #[] #[]),(a3t,.func (.func 301) #[] #[]),(a8L,.func (.func 302) #[] #[.pointer (some ⟨g,0,none⟩)]),(c4d,.func (.func 303) #[] #[.pointer (some ⟨g,0,none⟩)])]
theorem d1b (I:IMap) :
    FnH prog 250 #[] I [] (fun u J H2=>∃m g,u = .map (some m)∧H2=[.mp m (a1A Value.string (d3P g))]∧ICells J g 0 [.func (.func 298) #[] #[]]):=by
 refine enter func250 call250 rfl ntmps250 rfl fun w0=>?_;refine go 9 fun g1=>?_
 refine go 7 ?_;refine a5i (Value.string) he rfl fun r2=>?_;refine go 1 ?_;refine a4N ([(sKm,.func (.func 299) #[] #[])]) (a0H he) he (sKm) rfl rfl rfl (rfl) ?_;refine go 1 ?_;refine a4N ([(sKm,.func (.func 299) #[] #[]),(a2Z,.func (.func 300) #[] #[])]) (a0H he) he (a2Z) rfl rfl rfl (rfl) ?_;refine go 1 ?_;refine a4N ([(sKm,.func (.func 299) #[] #[]),(a2Z,.func (.func 300) #[] #[]),(a3t,.func (.func 301) #[] #[])]) (a0H he) he (a3t) rfl rfl rfl (rfl) ?_;refine go 2 ?_;refine a4N ([(sKm,.func (.func 299) #[] #[]),(a2Z,.func (.func 300) #[] #[]),(a3t,.func (.func 301) #[] #[]),(a8L,.func (.func 302) #[] #[.pointer (some ⟨g1,0,none⟩)])]) (a0H he) he (a8L) rfl rfl rfl (rfl) ?_;refine go 2 ?_;refine a4N ([(sKm,.func (.func 299) #[] #[]),(a2Z,.func (.func 300) #[] #[]),(a3t,.func (.func 301) #[] #[]),(a8L,.func (.func 302) #[] #[.pointer (some ⟨g1,0,none⟩)]),(c4d,.func (.func 303) #[] #[.pointer (some ⟨g1,0,none⟩)])]) (a0H he) he (c4d) rfl rfl rfl (rfl) ?_;refine go 6 ?_;refine a0b ?_;refine a0A fun J9 j9 c9=>?_;exact a2g (fun _ m=>m) ⟨_,g1,rfl,rfl,c9⟩
theorem c5I (I:IMap) (g:Nat) (hg:ICells I g 0 [.func (.func 298) #[] #[]]) (s:ByteArray):∃(z:Value) (b:Bool),(a4h (d3P g) s).getD .nilFunc=z∧(a4h (d3P g) s).isSome=b∧b=b0B s∧(b=true→∃(k:FuncId) (cs:List Value),z = .func (.func k) #[] cs.toArray ∧
  ∀J,ILe I J→∀(p:Part) (q:Value) (day:Int),0≤day∧day≤40000→FnV prog k ([Value.agg (p.cells q).toArray,.int .i64 day]++cs).toArray J (.agg (c8R p s day).cells.toArray)):=by
 obtain⟨⟨n1,n2,n3,n4⟩,⟨n5,n6,n7⟩,⟨n8,n9⟩,n10⟩:=d3R;refine⟨_,_,rfl,rfl,?_,?_⟩
 ·rw[d3P,b7G]
  rcases b4q s with h|h
  ·rcases h with rfl|rfl|rfl|rfl|rfl<;>simp[b0B,c8S, *,Ne.symm,n1.symm,n2.symm,n3.symm,n4.symm,n5.symm,n6.symm,n7.symm,n8.symm,n9.symm,n10.symm]
  ·rw[h];have h2:s∉c8S:=by simpa[b0B]using h
   simp only[c8S,List.mem_cons,List.not_mem_nil,or_false,not_or]at h2
   simp[h2]
 ·intro hs;rw[d3P,b7G]at hs ⊢
  rcases b4q s with h|h
  ·rcases h with rfl|rfl|rfl|rfl|rfl
   ·exact⟨299,[],by simp,fun J _ p q day hd=>by rw[c8R,if_pos rfl];exact d3Q J p q day hd⟩
   ·exact⟨300,[],by simp[n1.symm],fun J _ p q day hd=>by rw[c8R,if_neg n1.symm,if_pos rfl];exact b9B J p q day hd⟩
   ·exact⟨301,[],by simp[n2.symm,n5.symm],fun J _ p q day hd=>by rw[c8R,if_neg n2.symm,if_neg n5.symm,if_pos rfl];exact b9C J p q day hd⟩
   ·exact⟨302,[.pointer (some ⟨g,0,none⟩)],by simp[n3.symm,n6.symm,n8.symm],fun J hJ p q day hd=>by rw[c8R,if_neg n3.symm,if_neg n6.symm,if_neg n8.symm,if_pos rfl];exact c1H J p q day hd g (hg.le hJ)⟩
   ·exact⟨303,[.pointer (some ⟨g,0,none⟩)],by simp[n4.symm,n7.symm,n9.symm,n10.symm],fun J hJ p q day hd=>by rw[c8R,if_neg n4.symm,if_neg n7.symm,if_neg n9.symm,if_neg n10.symm];exact c5J J p q day hd g (hg.le hJ)⟩
  ·exfalso
   have h2:s∉c8S:=by simpa[b0B]using h
   simp only[c8S,List.mem_cons,List.not_mem_nil,or_false,not_or]at h2
   simp[h2]at hs
theorem c2L (I:IMap) (p:Part) (q:Value) (hq:q.oneCell'=true) (s:ByteArray) (day:Int) :
    FnV prog 169 #[.agg (p.cells q).toArray,.string s,.int .i64 (day)] I (.tuple #[.agg (a4m p s day).1.cells.toArray,.int .i64 ((a4m p s day).2)]):=by
 refine enter func169 call169 rfl ntmps169 rfl fun w0=>?_;refine go 4 fun g3=>?_
 refine go 2 fun g6=>?_
 refine go 6 ?_;refine a6w (d1b _) rfl rfl fun u11 I11 H11 j11 q11=>?_;obtain⟨m,g,rfl,rfl,hg⟩:=q11;refine a6B ?_;obtain⟨z,b,hz,hb,hbs,hzb⟩:=c5I _ g hg s;refine go 1 ?_;refine o_v rfl (a9g m0 (a0H he) he he (s) rfl rfl hz hb) ?_;refine gC 16 (fun h16 p16=>?_) fun h16 p16=>?_
 ·refine go 4 ?_;refine a0b ?_;refine go 8 ?_;exact a8J (by rw[c8x (by rw[←hbs];simpa using h16)]<;>rfl)
 ·have hb1:b=true:=by simpa using h16
  obtain⟨k,cs,rfl,hcall⟩:=hzb hb1;refine go 1 ?_;refine a1V (I':=I11) (L':=[(2,.int .i64 (day)),(3,.pointer (some ⟨g3,0,none⟩)),(6,.pointer (some ⟨g6,0,none⟩)),(8,.func (.func k) #[] cs.toArray),(20,.bool (decide (day<0)||decide (day>40000)))]) (H':=[.blk g3 85 (p.cells q),.blk g6 81 [.int .i64 (0),.int .i64 (0)]]) ?_ ?_
  ·refine gS 4 23 (fun h23 p23=>?_) fun h23 p23=>?_
   ·refine go 6 ?_;refine a0a ?_;refine a0b ?_;exact a0r ⟨rfl,rfl,rfl,rfl,(bB (by simp only[h16,h23,bS])),trivial⟩ rfl rfl
   ·refine go 6 ?_;refine a0a ?_;refine a0b ?_;exact a0r ⟨rfl,rfl,rfl,rfl,(bB (by simp only[h16,h23,bS])),trivial⟩ rfl rfl
  ·refine gC 0 (fun h20 p20=>?_) fun h20 p20=>?_
   ·refine go 4 ?_;refine a0b ?_;refine go 8 ?_;exact a8J (by rw[c4S (by rw[←hbs,hb1]) h20]<;>rfl)
   ·have hd:0≤day∧day≤40000:=by simp at h20;omega
    refine go 9 ?_;refine cV (hcall _ (ILe.refl _) p q day hd) ?_;refine go 1 ?_;refine a0b ?_;refine go 6 ?_;exact a8J (by rw[c4T (by rw[←hbs,hb1]) h20]<;>rfl)
end Go.Proofs.YtgmkjpafapgccaaGreat
set_option linter.all false
namespace Go.Sx
open Go
def a3K (e:Evt):Bool:=!(((((decide (((e.part.size:Nat):Int)>300)||decide (((e.kind.size:Nat):Int)>300))||decide (((e.into.size:Nat):Int)>300))||decide (((e.slot.size:Nat):Int)>300))||decide (((e.key.size:Nat):Int)>300))||decide (((e.value.size:Nat):Int)>300))
def b9u (c:List Kind) (f:Fm) (l:List Evt) (n:Int):Bool:=(decide (((l.length:Nat):Int)>n) || !c5W c) || !decide (nodesF f 80≤80)
def b6c (c:List Kind) (f:Fm) (l:List Evt) (n:Int):Bool:=!b9u c f l n&&a3v (fun _ e=>a3K e) l l.length
theorem c0I {e:Evt} (h:a3K e=true):SmE e:=by
 simp only[a3K,Bool.not_eq_true',Bool.or_eq_false_iff,decide_eq_false_iff_not]at h
 refine⟨?_,?_,?_,?_,?_,?_⟩<;>unfold Sm<;>omega
theorem c5U {c:List Kind} {f:Fm} {l:List Evt} {n:Nat} (h:b6c c f l (n:Nat)=true):SmC c∧l.length≤n∧(∀e∈l,SmE e):=by
 simp only[b6c,b9u,Bool.and_eq_true,Bool.not_eq_true',Bool.or_eq_false_iff,decide_eq_false_iff_not,Bool.not_eq_false']at h
 refine⟨c2g h.1.1.2,oM,fun e he=>?_⟩;obtain⟨_,h1⟩:=a3P h.2 he;exact c0I h1
def d0C (st:List Part) (v:ByteArray):Bool:=(!decide (v=a0M)&&(a0e st v).isSome)&&st.all fun p=>decide (upP st p.name=a0M)||decide (upP st p.name=v)
def d8b (st:List Part) (e:Evt) (d:Ivl):List Part:=st.map fun p=>if p.name=e.part∨upP st p.name=e.part then a9P d e.use p else p
theorem d2K {st:List Part} {e:Evt} {d:Ivl} (h:d0C st e.part=true):useL st e d=d8b st e d:=by
 simp only[d0C,Bool.and_eq_true,Bool.not_eq_true',decide_eq_false_iff_not,List.all_eq_true,Bool.or_eq_true,decide_eq_true_eq]at h
 obtain⟨⟨hv,hs⟩,hall⟩:=h;unfold useL d8b;refine List.map_congr_left fun p hp=>?_
 have hi:(p.name=e.part∨a7c st e.part p.name)↔(p.name=e.part∨upP st p.name=e.part):=by
  constructor
  ·rintro (h|⟨_,k,hk⟩)
   ·exact .inl h
   ·rcases hall p hp with h0|h0
    ·cases k with
     |zero=>cases hk
     |succ k=>simp[a3r,h0]at hk
    ·exact .inr h0
  ·rintro (h|h)
   ·exact .inl h
   ·by_cases hn:p.name=e.part
    ·exact .inl hn
    ·exact .inr ⟨⟨hs,b1l (by rw[h];exact hv),hn⟩,1,by unfold a3r;rw[h];simp[hv]⟩
 by_cases hc:p.name=e.part∨upP st p.name=e.part
 ·rw[if_pos hc,if_pos (hi.2 hc)]
 ·rw[if_neg hc,if_neg (fun h=>hc (hi.1 h))]
def goC (f:Fm) (c:List Kind):List Part→Int→List Evt→Option c5o
 |s,_,[]=>some (s,-1,0)
 |s,i,e::r=>if (a0j c s e).2=0 then (if e.op=4 then (if d0C (a0j c s e).1 e.part=true then goC f c (d8b (a0j c s e).1 e (b2S f e.use)) (i+1) r else none) else goC f c (a0j c s e).1 (i+1) r) else some ([],i,(a0j c s e).2)
theorem c2s {f:Fm} {c:List Kind}:∀(l:List Evt) {s:List Part} {i:Int} {r:c5o},goC f c s i l=some r→runLGo f c s i l=r
 | [],s,i,r,h=>by simp only[goC,Option.some.injEq]at h;exact h
 |e::l,s,i,r,h=>by
  simp only[goC]at h
  simp only[runLGo,a3x]
  split at h
  ·rename_i h0
   rw[if_pos h0];unfold applyL
   split at h
   ·rename_i h4
    rw[if_pos ⟨h0,h4⟩]
    split at h
    ·rename_i hf
     rw[d2K hf];exact c2s l h
    ·cases h
   ·rename_i h4
    rw[if_neg (fun hc=>h4 hc.2)];exact c2s l h
  ·rename_i h0
   rw[if_neg h0];exact Option.some.inj h
def d6I (f:Fm) (c:List Kind) (l:List Evt) (day:Int):Option c5o:=if (!a1I c || !a2L f)=true then some ([],-1,1) else goC f c [] 0 (a1N (l.filter fun e=>!decide (e.day>day)))
theorem c4b {f:Fm} {c:List Kind} {l:List Evt} {day:Int} {r:c5o} (h:d6I f c l day=some r):runL f c l day=r:=by
 unfold d6I at h
 unfold runL
 split at h
 ·rename_i h1;rw[if_pos h1];exact Option.some.inj h
 ·rename_i h1;rw[if_neg h1];exact c2s _ h
theorem c8Q {f:Fm} {c:List Kind}:∀(l:List Evt) (s:List Part) (i:Int),a7k (runLGo f c s i l).1≤a7k s+l.length
 | [],s,i=>Nat.le_refl _
 |e::r,s,i=>by
  simp only[runLGo]
  split
  ·rename_i h
   rw[a3x]at h
   have h1:=b4m h;have h2:=c8Q (f:=f) (c:=c) r (applyL f c s e).1 (i+1)
   have h3:a7k (applyL f c s e).1=a7k (a0j c s e).1:=by
    unfold applyL
    split
    ·exact c1G
    ·rfl
   simp only[List.length_cons];omega
  ·have:a7k ([]:List Part)=0:=rfl
   show a7k []≤_
   omega
theorem d0f {f:Fm} {c:List Kind} {l:List Evt} {day:Int}:a7k (runL f c l day).1≤l.length:=by
 unfold runL
 split
 ·exact Nat.zero_le _
 ·have h:=c8Q (f:=f) (c:=c) (a1N (l.filter fun e=>!decide (e.day>day))) [] 0;rw[a4B]at h
  have h2:=List.length_filter_le (fun e:Evt=>!decide (e.day>day)) l;have h3:a7k ([]:List Part)=0:=rfl
  omega
theorem c2k {f:Fm} {c:List Kind} {l:List Evt} {day:Int} (h:l.length≤25):b1X (runL f c l day).1≤12∧(runL f c l day).1.length≤25:=by
 have h1:=d0f (f:=f) (c:=c) (l:=l) (day:=day);have h2:b1X (runL f c l day).1≤(runL f c l day).1.length:=List.length_filter_le _ _;unfold a7k at h1
 omega
theorem c2j {l:List Part} {s:ByteArray} {i:Nat} (hi:i<l.length) (h:a0e (l.drop i) s=a0e l s) (hn:¬l[i].name=s):a0e (l.drop (i+1)) s=a0e l s:=by
 rw[←h,List.drop_eq_getElem_cons hi];unfold a0e;rw[List.find?_cons_of_neg (by simpa using hn)]
theorem c6d {l:List Part} {s:ByteArray} {i:Nat} (hi:i<l.length) (h:a0e (l.drop i) s=a0e l s) (hn:l[i].name=s):a0e l s=some l[i]:=by
 rw[←h,List.drop_eq_getElem_cons hi];unfold a0e;rw[List.find?_cons_of_pos (by simpa using hn)]
theorem c6c {l:List Part} {s:ByteArray} {i:Nat} (hi:¬i<l.length) (h:a0e (l.drop i) s=a0e l s):a0e l s=none:=by
 rw[←h,List.drop_eq_nil_of_le oM];rfl
end Go.Sx
namespace Go.Proofs.YtgmkjpafapgccaaGreat
open Go Go.Sx Tryz
set_option linter.all false
set_option maxRecDepth 20000
set_option maxHeartbeats 4000000
theorem b1c (I:IMap) (N:Nat) (ih:∀(f:Fm),cntN f≤N→∀vs,FmRd I vs f→∀m:Int,0≤m→m≤1000→FnV prog 182 #[.agg vs.toArray,.int .i64 (m)] I (.int .i64 (nodesF f m))) (f:Fm) (hN:cntN f≤N+1) (vs:List Value) (hr:FmRd I vs f) (m:Int) (h0:0≤m) (h1:m≤1000) :
    FnV prog 182 #[.agg vs.toArray,.int .i64 (m)] I (.int .i64 (nodesF f m)):=by
 obtain⟨s,rfl,hs⟩:=a2k hr;obtain⟨A,c0,rfl,hA,hc,hm⟩:=hs;refine enter func182 call182 rfl ntmps182 rfl fun w0=>?_;refine go 4 fun g2=>?_
 refine go 15 ?_
 refine a0B ((0:Nat)) ((1:Int)) (fun i n=>I)
  (fun i n=>[(1,.int .i64 (m)),(2,.pointer (some ⟨g2,0,none⟩)),(5,.int .i64 (n)),(6,.int .i64 ((i:Nat):Int))])
  (fun i n=>[.blk g2 27 [ci f.op,ci f.n,.slice A f.kids.length c0]])
  (fun i n=>i≤f.kids.length∧(1≤n∧n≤m+1)∧nodesL (f.kids.drop i) n m=nodesF f m)
  (fun i n=>f.kids.length-i) ⟨Nat.zero_le _,⟨oM,oM⟩,b0N⟩ rfl sb rfl ?_
 intro i n ⟨hi,hn,hq⟩;refine gS 9 12 (fun h12 p12=>?_) fun h12 p12=>?_
 ·have hlt:i<f.kids.length:=oM;refine gC 6 (fun h16 p16=>?_) fun h16 p16=>?_
  ·have hkn:=b3x f.kids[i] (m-n) oM;refine go 9 ?_;obtain⟨b23,o23,w23,e23,c23,r23⟩:=RdA.at_ hA (i:=i) oM;replace r23:=a2k r23;obtain⟨s23,rfl,hs23⟩:=r23;refine go 6 ?_;refine a0y (ih f.kids[i] (by have:=a4e (List.getElem_mem hlt);omega) _ (a4g hs23) _ oM oM) rfl rfl ?_;refine go 11 ?_;exact a0o (i+1) (_) ⟨oM,oM,b2j hlt hq oM⟩ oM rfl sb rfl
  ·refine go 13 ?_;exact q_v (congrArg (Value.int .i64) (b2k hlt hq oM))
 ·refine go 20 ?_;exact q_v (congrArg (Value.int .i64) (b4T oM hq))
theorem c0z (I:IMap) (f:Fm) (vs:List Value) (hr:FmRd I vs f) (m:Int) (h0:0≤m) (h1:m≤1000):FnV prog 182 #[.agg vs.toArray,.int .i64 (m)] I (.int .i64 (nodesF f m)):=by
 have key:∀(N:Nat),∀(f:Fm),cntN f≤N→∀vs,FmRd I vs f→∀m:Int,0≤m→m≤1000→FnV prog 182 #[.agg vs.toArray,.int .i64 (m)] I (.int .i64 (nodesF f m)):=by
  intro N
  induction N with
  |zero=>intro f hN;exact absurd hN (by cases f;simp[cntN])
  |succ N ih=>intro f hN vs hr m h0 h1;exact b1c I N ih f hN vs hr m h0 h1
 exact key (cntN f) f (Nat.le_refl _) vs hr m h0 h1
theorem c7x (I:IMap) (f:Fm) (vs:List Value) (hr:FmRd I vs f) :
    FnV prog 95 #[.agg vs.toArray] I (.bool (decide (nodesF f 80≤80))):=by
 have hl:=Enc.len (α:=Fm) hr;refine enter func95 call95 rfl ntmps95 rfl fun w0=>?_;refine go 4 fun g1=>?_
 refine go 5 ?_;refine o_v rfl (a2N m0 he rfl hl) ?_;refine go 1 ?_;refine cV (c0z _ f _ hr 80 oM oM) ?_;refine go 6 ?_;exact q_v rfl
theorem c7z (I:IMap) (vc:Value) (c:List Kind) (hvc:RdS I vc c) (f:Fm) (sf:Value) (hf:FmRd I [ci f.op,ci f.n,sf] f) (v:Value) (l:List Evt) (hv:RdS I v l) (n:Int) :
    FnV prog 34 #[.agg #[vc,ci f.op,ci f.n,sf],v,.int .i64 (n)] I (.bool (b6c c f l n)):=by
 have hv0:=hv;obtain⟨A,c0,rfl,hA,hc,hm⟩:=hv;refine enter func34 call34 rfl ntmps34 rfl fun w0=>?_;refine go 4 fun g3=>?_
 refine go 5 ?_;refine a1V (I':=I) (L':=[(1,.slice A l.length c0),(24,.bool (b9u c f l n))]) (H':=[]) ?_ ?_
 ·refine gS 6 13 (fun h13 p13=>?_) fun h13 p13=>?_
  ·refine go 13 ?_;refine a0a ?_;exact a0r ⟨rfl,(bB (by simp only[b9u,h13,bS])),trivial⟩ rfl rfl
  ·refine go 1 ?_;refine a0z (a0n rfl rfl h13 (a0q rfl (a1R ([vc]) m0 he rfl rfl rfl) ?_));refine go 1 ?_;refine a0n rfl rfl h13 (a0y (d5x _ vc c hvc) rfl rfl ?_);refine gS 3 19 (fun h19 p19=>?_) fun h19 p19=>?_
   ·refine go 7 ?_;refine a0a ?_;exact a0r ⟨rfl,(bB (by simp only[b9u,h13,h19,bS])),trivial⟩ rfl rfl
   ·refine go 1 ?_;refine a0z (a0n rfl rfl h19 (a0q rfl (a1R ([ci f.op,ci f.n,sf]) m0 he rfl rfl rfl) ?_));refine go 1 ?_;refine a0n rfl rfl h19 (a0y (c7x _ f _ hf) rfl rfl ?_);refine go 4 ?_;refine a0a ?_;exact a0r ⟨rfl,(bB (by simp only[b9u,h13,h19,bS])),trivial⟩ rfl rfl
 ·refine gC 0 (fun h24 p24=>?_) fun h24 p24=>?_
  ·refine go 8 ?_;exact q_v (congrArg Value.bool (by simp only[b6c,h24];rfl))
  ·refine go 9 ?_
   refine a0x (α:=Nat) 0 (fun i=>I)
    (fun i=>[(1,.slice A l.length c0),(7,.int .i64 ((i:Nat):Int))])
    (fun i=>[])
    (fun i=>i≤l.length∧a3v (fun _ e=>a3K e) l i=true)
    (fun i=>l.length-i) ⟨Nat.zero_le _,rfl⟩ rfl sb rfl ?_
   intro i ⟨hi,hn⟩;refine gC 9 (fun h28 p28=>?_) fun h28 p28=>?_
   ·have hlt:i<l.length:=oM;refine go 8 ?_;obtain⟨b33,o33,w33,e33,c33,r33⟩:=RdA.at_ hA (i:=i) oM;obtain rfl:=r33;refine go 4 fun g8=>?_
    refine go 5 ?_;refine a1V (I':=I) (L':=[(1,.slice A l.length c0),(7,.int .i64 ((i:Nat):Int)),(68,.bool (!a3K l[i]))]) (H':=[]) ?_ ?_
    ·refine gS 6 39 (fun h39 p39=>?_) fun h39 p39=>?_
     ·refine go 31 ?_;refine a0a ?_;exact a0r ⟨rfl,rfl,(bB (by simp only[a3K,Bool.not_not,h28,h39,bS])),trivial⟩ rfl rfl
     ·refine gS 6 45 (fun h45 p45=>?_) fun h45 p45=>?_
      ·refine go 25 ?_;refine a0a ?_;exact a0r ⟨rfl,rfl,(bB (by simp only[a3K,Bool.not_not,h28,h39,h45,bS])),trivial⟩ rfl rfl
      ·refine gS 6 51 (fun h51 p51=>?_) fun h51 p51=>?_
       ·refine go 19 ?_;refine a0a ?_;exact a0r ⟨rfl,rfl,(bB (by simp only[a3K,Bool.not_not,h28,h39,h45,h51,bS])),trivial⟩ rfl rfl
       ·refine gS 6 57 (fun h57 p57=>?_) fun h57 p57=>?_
        ·refine go 13 ?_;refine a0a ?_;exact a0r ⟨rfl,rfl,(bB (by simp only[a3K,Bool.not_not,h28,h39,h45,h51,h57,bS])),trivial⟩ rfl rfl
        ·refine gS 6 63 (fun h63 p63=>?_) fun h63 p63=>?_
         ·refine go 7 ?_;refine a0a ?_;exact a0r ⟨rfl,rfl,(bB (by simp only[a3K,Bool.not_not,h28,h39,h45,h51,h57,h63,bS])),trivial⟩ rfl rfl
         ·refine go 7 ?_;refine a0a ?_;exact a0r ⟨rfl,rfl,(bB (by simp only[a3K,Bool.not_not,h28,h39,h45,h51,h57,h63,bS])),trivial⟩ rfl rfl
    ·refine gC 0 (fun h68 p68=>?_) fun h68 p68=>?_
     ·refine go 12 ?_;exact q_v (congrArg Value.bool (by simp only[b6c,a1g (f:=fun _ e=>a3K e) hlt (by simpa using h68)];simp))
     ·refine go 9 ?_;exact a0w (i+1) ⟨oM,a1r (f:=fun _ e=>a3K e) hn hlt (by simpa using h68)⟩ oM rfl sb rfl
   ·refine go 12 ?_;have e:i=l.length:=oM;subst e;exact q_v (congrArg Value.bool (by simp only[b6c,h24,hn];rfl))
theorem a6K (I:IMap) (v:Value) (l:List Part) (hv:RdS I v l) (s:ByteArray) :
    FnE prog 24 #[.agg #[v],.string s] I (PartIs I (a0e l s)):=by
 have hv0:=hv;obtain⟨A,c0,rfl,hA,hc,hm⟩:=hv;refine enter func24 call24 rfl ntmps24 rfl fun w0=>?_;refine go 4 fun g2=>?_
 refine go 2 fun g4=>?_
 refine go 13 ?_;refine a0b ?_;refine a0a ?_
 refine a0x (α:=Nat) 0 (fun i=>I)
  (fun i=>[(1,.string s),(4,.pointer (some ⟨g4,0,none⟩)),(9,.slice A l.length c0),(10,.int .i64 (l.length:Int)),(11,.int .i64 ((i:Nat):Int))])
  (fun i=>[.blk g4 85 [.string ⟨#[]⟩,.string ⟨#[]⟩,.string ⟨#[]⟩,.string ⟨#[]⟩,.int .i64 0,.int .i64 0,.bool false,.slice none 0 0,.int .i64 0,.int .i64 0,.int .i64 0,.int .i64 0,.int .i64 0,.int .i64 0]])
  (fun i=>i≤l.length∧a0e (l.drop i) s=a0e l s)
  (fun i=>l.length-i) ⟨Nat.zero_le _,rfl⟩ rfl sb rfl ?_
 intro i ⟨hi,hn⟩;refine gC 6 (fun h12 p12=>?_) fun h12 p12=>?_
 ·have hlt:i<l.length:=oM;refine go 6 ?_;obtain⟨b13,o13,w13,e13,c13,r13⟩:=RdA.at_ hA (i:=i) hlt;obtain⟨q13,rfl,B13,d13,rfl,hB13,hd13,hm13⟩:=r13;refine go 4 fun g7=>?_
  refine gC 12 (fun h18 p18=>?_) fun h18 p18=>?_
  ·refine go 4 ?_;refine a0b ?_;refine go 11 ?_;exact q_e (PartIs.of (c6d hlt hn p18) ⟨_,rfl,B13,d13,rfl,hB13,hd13,hm13⟩)
  ·refine go 8 ?_;refine a0a ?_;exact a0w (i+1) ⟨oM,c2j hlt hn p18⟩ oM rfl sb rfl
 ·refine go 15 ?_;exact q_e (PartIs.none (c6c oM hn))
end Go.Proofs.YtgmkjpafapgccaaGreat
namespace Go.Proofs
open Go.Shelf
def Tryz.layS_ren:Go.Shelf.Ren:=⟨fun|190=>78|125=>160|258=>159|128=>242|129=>243|302=>233|303=>234|304=>235|305=>236|306=>237|307=>238|308=>239|309=>240|310=>241|333=>292|329=>293|330=>294|334=>295|335=>296|336=>223|344=>333|n=>n,fun|31=>88|9=>9|3=>3|46=>274|0=>0|51=>355|53=>357|4=>4|183=>348|182=>347|131=>167|5=>5|218=>399|222=>403|228=>428|229=>429|n=>n,fun|n=>n⟩
theorem Tryz.layS:Go.Proofs.Lays.n190 Tryz.prog Tryz.layS_ren:={
 mixed:=by kernel_rfl
 f125:=Tryz.func160.trans (congrArg some (by kernel_rfl))
 f128:=Tryz.func242.trans (congrArg some (by kernel_rfl))
 f129:=Tryz.func243.trans (congrArg some (by kernel_rfl))
 f190:=Tryz.func78.trans (congrArg some (by kernel_rfl))
 f258:=Tryz.func159.trans (congrArg some (by kernel_rfl))
 f302:=Tryz.func233.trans (congrArg some (by kernel_rfl))
 f303:=Tryz.func234.trans (congrArg some (by kernel_rfl))
 f304:=Tryz.func235.trans (congrArg some (by kernel_rfl))
 f305:=Tryz.func236.trans (congrArg some (by kernel_rfl))
 f306:=Tryz.func237.trans (congrArg some (by kernel_rfl))
 f307:=Tryz.func238.trans (congrArg some (by kernel_rfl))
 f308:=Tryz.func239.trans (congrArg some (by kernel_rfl))
 f309:=Tryz.func240.trans (congrArg some (by kernel_rfl))
 f310:=Tryz.func241.trans (congrArg some (by kernel_rfl))
 f329:=Tryz.func293.trans (congrArg some (by kernel_rfl))
 f330:=Tryz.func294.trans (congrArg some (by kernel_rfl))
 f333:=Tryz.func292.trans (congrArg some (by kernel_rfl))
 f334:=Tryz.func295.trans (congrArg some (by kernel_rfl))
 f335:=Tryz.func296.trans (congrArg some (by kernel_rfl))
 f336:=Tryz.func223.trans (congrArg some (by kernel_rfl))
 f344:=Tryz.func333.trans (congrArg some (by kernel_rfl))
 t0:=Tryz.underlying0
 a0:=Tryz.isAgg0
 z0:=Tryz.sizeOf0
 v0:=Tryz.zeroValue0
 t3:=Tryz.underlying3
 a3:=Tryz.isAgg3
 z3:=Tryz.sizeOf3
 v3:=Tryz.zeroValue3
 t4:=Tryz.underlying4
 a4:=Tryz.isAgg4
 z4:=Tryz.sizeOf4
 v4:=Tryz.zeroValue4
 t5:=Tryz.underlying5
 a5:=Tryz.isAgg5
 z5:=Tryz.sizeOf5
 v5:=Tryz.zeroValue5
 t9:=Tryz.underlying9
 a9:=Tryz.isAgg9
 z9:=Tryz.sizeOf9
 v9:=Tryz.zeroValue9
 t31:=Tryz.underlying88
 a31:=Tryz.isAgg88
 z31:=Tryz.sizeOf88
 v31:=Tryz.zeroValue88
 t46:=Tryz.underlying274
 a46:=Tryz.isAgg274
 z46:=Tryz.sizeOf274
 v46:=Tryz.zeroValue274
 t51:=Tryz.underlying355
 a51:=Tryz.isAgg355
 z51:=Tryz.sizeOf355
 v51:=Tryz.zeroValue355
 t53:=Tryz.underlying357
 a53:=Tryz.isAgg357
 z53:=Tryz.sizeOf357
 v53:=Tryz.zeroValue357
 t131:=Tryz.underlying167
 a131:=Tryz.isAgg167
 z131:=Tryz.sizeOf167
 v131:=Tryz.zeroValue167
 t182:=Tryz.underlying347
 a182:=Tryz.isAgg347
 z182:=Tryz.sizeOf347
 v182:=Tryz.zeroValue347
 t183:=Tryz.underlying348
 a183:=Tryz.isAgg348
 z183:=Tryz.sizeOf348
 v183:=Tryz.zeroValue348
 t218:=Tryz.underlying399
 a218:=Tryz.isAgg399
 z218:=Tryz.sizeOf399
 v218:=Tryz.zeroValue399
 t222:=Tryz.underlying403
 a222:=Tryz.isAgg403
 z222:=Tryz.sizeOf403
 v222:=Tryz.zeroValue403
 t228:=Tryz.underlying428
 a228:=Tryz.isAgg428
 z228:=Tryz.sizeOf428
 v228:=Tryz.zeroValue428
 t229:=Tryz.underlying429
 a229:=Tryz.isAgg429
 z229:=Tryz.sizeOf429
 v229:=Tryz.zeroValue429 }
def Tryz.layF_ren:Go.Shelf.Ren:=⟨fun|6=>221|15=>160|14=>283|28=>242|29=>243|20=>322|21=>323|22=>324|23=>325|24=>326|25=>327|26=>328|27=>329|46=>345|47=>293|48=>294|49=>346|50=>347|57=>353|n=>n,fun|22=>46|24=>157|25=>256|3=>3|39=>274|0=>0|53=>355|55=>357|4=>4|46=>348|45=>347|50=>167|5=>5|9=>9|66=>399|70=>403|76=>428|77=>429|n=>n,fun|n=>n⟩
theorem Tryz.layF:Go.Proofs.SlLaysF0.n6 Tryz.prog Tryz.layF_ren:={
 mixed:=by kernel_rfl
 f6:=⟨Tryz.f221.name,by decide,Tryz.func221.trans (congrArg some (by kernel_rfl))⟩
 f14:=⟨Tryz.f283.name,by decide,Tryz.func283.trans (congrArg some (by kernel_rfl))⟩
 f15:=Tryz.func160.trans (congrArg some (by kernel_rfl))
 f20:=⟨Tryz.f322.name,by decide,Tryz.func322.trans (congrArg some (by kernel_rfl))⟩
 f21:=⟨Tryz.f323.name,by decide,Tryz.func323.trans (congrArg some (by kernel_rfl))⟩
 f22:=⟨Tryz.f324.name,by decide,Tryz.func324.trans (congrArg some (by kernel_rfl))⟩
 f23:=⟨Tryz.f325.name,by decide,Tryz.func325.trans (congrArg some (by kernel_rfl))⟩
 f24:=⟨Tryz.f326.name,by decide,Tryz.func326.trans (congrArg some (by kernel_rfl))⟩
 f25:=⟨Tryz.f327.name,by decide,Tryz.func327.trans (congrArg some (by kernel_rfl))⟩
 f26:=⟨Tryz.f328.name,by decide,Tryz.func328.trans (congrArg some (by kernel_rfl))⟩
 f27:=⟨Tryz.f329.name,by decide,Tryz.func329.trans (congrArg some (by kernel_rfl))⟩
 f28:=Tryz.func242.trans (congrArg some (by kernel_rfl))
 f29:=Tryz.func243.trans (congrArg some (by kernel_rfl))
 f46:=⟨Tryz.f345.name,by decide,Tryz.func345.trans (congrArg some (by kernel_rfl))⟩
 f47:=Tryz.func293.trans (congrArg some (by kernel_rfl))
 f48:=Tryz.func294.trans (congrArg some (by kernel_rfl))
 f49:=⟨Tryz.f346.name,by decide,Tryz.func346.trans (congrArg some (by kernel_rfl))⟩
 f50:=⟨Tryz.f347.name,by decide,Tryz.func347.trans (congrArg some (by kernel_rfl))⟩
 f57:=⟨Tryz.f353.name,by decide,Tryz.func353.trans (congrArg some (by kernel_rfl))⟩
 t0:=Tryz.underlying0
 a0:=Tryz.isAgg0
 z0:=Tryz.sizeOf0
 v0:=Tryz.zeroValue0
 t3:=Tryz.underlying3
 a3:=Tryz.isAgg3
 z3:=Tryz.sizeOf3
 v3:=Tryz.zeroValue3
 t4:=Tryz.underlying4
 a4:=Tryz.isAgg4
 z4:=Tryz.sizeOf4
 v4:=Tryz.zeroValue4
 t5:=Tryz.underlying5
 a5:=Tryz.isAgg5
 z5:=Tryz.sizeOf5
 v5:=Tryz.zeroValue5
 t9:=Tryz.underlying9
 a9:=Tryz.isAgg9
 z9:=Tryz.sizeOf9
 v9:=Tryz.zeroValue9
 t22:=Tryz.underlying46
 a22:=Tryz.isAgg46
 z22:=Tryz.sizeOf46
 v22:=Tryz.zeroValue46
 t25:=Tryz.underlying256
 a25:=Tryz.isAgg256
 z25:=Tryz.sizeOf256
 v25:=Tryz.zeroValue256
 t39:=Tryz.underlying274
 a39:=Tryz.isAgg274
 z39:=Tryz.sizeOf274
 v39:=Tryz.zeroValue274
 t45:=Tryz.underlying347
 a45:=Tryz.isAgg347
 z45:=Tryz.sizeOf347
 v45:=Tryz.zeroValue347
 t46:=Tryz.underlying348
 a46:=Tryz.isAgg348
 z46:=Tryz.sizeOf348
 v46:=Tryz.zeroValue348
 t50:=Tryz.underlying167
 a50:=Tryz.isAgg167
 z50:=Tryz.sizeOf167
 v50:=Tryz.zeroValue167
 t53:=Tryz.underlying355
 a53:=Tryz.isAgg355
 z53:=Tryz.sizeOf355
 v53:=Tryz.zeroValue355
 t55:=Tryz.underlying357
 a55:=Tryz.isAgg357
 z55:=Tryz.sizeOf357
 v55:=Tryz.zeroValue357
 t66:=Tryz.underlying399
 a66:=Tryz.isAgg399
 z66:=Tryz.sizeOf399
 v66:=Tryz.zeroValue399
 t70:=Tryz.underlying403
 a70:=Tryz.isAgg403
 z70:=Tryz.sizeOf403
 v70:=Tryz.zeroValue403
 t76:=Tryz.underlying428
 a76:=Tryz.isAgg428
 z76:=Tryz.sizeOf428
 v76:=Tryz.zeroValue428
 t77:=Tryz.underlying429
 a77:=Tryz.isAgg429
 z77:=Tryz.sizeOf429
 v77:=Tryz.zeroValue429 }
end Go.Proofs
set_option linter.all false
namespace Go.Sx
open Go
section
variable {c:List Kind} {f:Fm} {st:List Part} {l:List Evt} {p:Part} {e:Evt} {d:Ivl}
theorem c4G (hi:Inc Part.name st):Inc Part.name (useL st e d):=by
 unfold useL Inc;rw[List.pairwise_map];refine List.Pairwise.imp (fun {a b} h=>?_) hi
 split<;>split<;>exact h
end
section
variable {p:Part} {s:ByteArray} {d:Int}
end
end Go.Sx
set_option linter.all false
namespace Go.Sx
open Go
noncomputable def runsL (f:Fm) (c:List Kind):List Part→List Evt→Option (List Part)
 |st,[]=>some st
 |st,e::l=>if (a0j c st e).2=0 then runsL f c (applyL f c st e).1 l else none
section
variable {f:Fm} {c:List Kind} {D:ByteArray→Bool} {s a b:List Part} {d:Ivl} {v n:ByteArray}
theorem c9t (h:Spl D s a b) (hn:D n=true):upP s n=upP a n∧(upP a n=a0M∨D (upP a n)=true):=by
 refine⟨by unfold upP;rw[h.find hn],?_⟩;unfold upP
 cases hq:a0e a n with
 |none=>exact .inl rfl
 |some q=>exact (h.na q ((a1E h.ia).1 hq).1).2
theorem b8M (h:Spl D s a b):∀(k:Nat) (n:ByteArray),D n=true→a3r s v k n=a3r a v k n
 |0,_,_=>rfl
 |k+1,n,hn=>by
  obtain⟨h1,h2⟩:=c9t h hn
  simp only[a3r,h1]
  rcases h2 with h2|h2
  ·simp[h2]
  ·rw[b8M h k _ h2]
theorem b5l (h:Spl D s a b) (hv:D v=true):∀(k:Nat) (n:ByteArray),D n=false→a3r s v k n=false
 |0,_,_=>rfl
 |k+1,n,hn=>by
  obtain⟨h1,h2⟩:=c9t h.turn (n:=n) (by simpa using hn)
  simp only[a3r]
  rcases h2 with h2|h2
  ·rw[h1,h2];simp
  ·have h3:D (upP s n)=false:=by rw[h1];simpa using h2
   rw[b5l h hv k _ h3];have:¬upP s n=v:=fun e=>by rw[e,hv]at h3;cases h3
   simp[this]
theorem d4p (h:Spl D s a b) (hv:D v=true) (hn:D n=true):a7c s v n↔a7c a v n:=by
 unfold a7c;rw[h.find hv,h.find hn];refine and_congr_right fun _=>exists_congr fun k=>?_
 rw[b8M h k n hn]
theorem d0R (h:Spl D s a b) (hv:D v=true) (hn:D n=false):¬a7c s v n:=fun ⟨_,k,hk⟩=>by rw[b5l h hv k n hn]at hk;cases hk
theorem Spl.use (h:Spl D s a b) {e:Evt} (hv:D e.part=true):Spl D (useL s e d) (useL a e d) b:=by
 have hA:∀y∈a,(y.name=e.part∨a7c s e.part y.name)↔(y.name=e.part∨a7c a e.part y.name):=fun y hy=>by rw[d4p h hv (h.na y hy).1]
 have hB:∀y∈b,¬(y.name=e.part∨a7c s e.part y.name):=fun y hy=>by
  have hd:=(h.nb y hy).1;rintro (h1|h1)
  ·rw[h1,hv]at hd;cases hd
  ·exact d0R h hv hd h1
 refine⟨c4G h.is,c4G h.ia,h.ib,fun x=>?_,fun x hx=>?_,h.nb⟩
 ·unfold useL;rw[List.mem_map,List.mem_map]
  constructor
  ·rintro⟨y,hy,rfl⟩
   rcases (h.mem y).1 hy with hy|hy
   ·refine .inl ⟨y,hy,?_⟩
    by_cases h1:y.name=e.part∨a7c s e.part y.name
    ·rw[if_pos h1,if_pos ((hA y hy).1 h1)]
    ·rw[if_neg h1,if_neg (fun h2=>h1 ((hA y hy).2 h2))]
   ·rw[if_neg (hB y hy)];exact .inr hy
  ·rintro (⟨y,hy,rfl⟩|hx)
   ·refine⟨y,(h.mem y).2 (.inl hy),?_⟩
    by_cases h1:y.name=e.part∨a7c s e.part y.name
    ·rw[if_pos h1,if_pos ((hA y hy).1 h1)]
    ·rw[if_neg h1,if_neg (fun h2=>h1 ((hA y hy).2 h2))]
   ·exact⟨x,(h.mem x).2 (.inr hx),if_neg (hB x hx)⟩
 ·unfold useL at hx
  obtain⟨y,hy,rfl⟩:=List.mem_map.1 hx
  split
  ·exact h.na y hy
  ·exact h.na y hy
end
section
variable {f:Fm} {c:List Kind} {l:List Rep} {s:List Part} {R:Nat→Nat} {t T:List Int} {E:List Evt} {r k:Nat} {p:ByteArray} {day:Int}
end
end Go.Sx
set_option linter.all false
namespace Go.Sx
open Go
def d7t:List Ivl→Ivl
 | []=>a9M
 |x::r=>r.foldl a4H x
noncomputable def lifeA (f:Fm) (c:List Kind) (own:List Rep) (p:ByteArray) (day:Int):List (Option Part):=(d6A c own 4096).1.map fun t=>a0e (runL f c (a0J own t).1 day).1 p
def d8l (f:Fm) (c:List Kind) (l own:List Rep) (day:Int):Int:=if (!a1I c || !a2L f)=true then 1 else if (decide (day<0)||decide (day>40000))=true then 1 else d8y c l own
noncomputable def bndF (g:Option Part→Ivl) (f:Fm) (c:List Kind) (l own:List Rep) (p:ByteArray) (day:Int):Ivl×Int:=
 if d8l f c l own day≠0 then (a9M,d8l f c l own day) else if (lifeA f c own p day).any Option.isSome=false then (a9M,2) else (d7t ((lifeA f c own p day).map g),0)
def kmO (o:Option Part):Ivl:=(o.getD zPart).life.km
def cyO (o:Option Part):Ivl:=(o.getD zPart).life.cycles
def daO (o:Option Part):Ivl:=(o.getD zPart).life.damage
def d8T (s:ByteArray) (day:Int) (o:Option Part):Ivl:=match o with
 |some p=>(a4m p s day).1
 |none=>a9M
noncomputable def bndLife (f:Fm) (c:List Kind) (l own:List Rep) (p:ByteArray) (day:Int):Life×Int:=(⟨(bndF kmO f c l own p day).1,(bndF cyO f c l own p day).1,(bndF daO f c l own p day).1⟩,(bndF kmO f c l own p day).2)
noncomputable def bndVal (s:ByteArray) (f:Fm) (c:List Kind) (l own:List Rep) (p:ByteArray) (day:Int):Ivl×Int:=if b0B s=false then (a9M,15) else bndF (d8T s day) f c l own p day
section
variable {L M:List Ivl} {x:Ivl}
end
section
variable {f:Fm} {c:List Kind} {l own:List Rep} {R:Nat→Nat} {p s:ByteArray} {day:Int} {g g':Option Part→Ivl} {k:Nat}
end
end Go.Sx
set_option linter.all false
namespace Go.Sx
open Go
def d3D:Evt:=⟨1,0,nV1,b2i,a0M,a0M,a0M,a0M,c8D⟩
def d3E (d k:Int):Evt:=⟨4,d,nV1,a0M,a0M,a0M,a0M,a0M,⟨⟨k,k⟩,⟨0,0⟩,⟨0,0⟩⟩⟩
end Go.Sx
namespace Go.Proofs.YtgmkjpafapgccaaGreat
open Go Go.Sx Tryz
set_option linter.all false
set_option maxRecDepth 20000
set_option maxHeartbeats 4000000
theorem c2M (I:IMap) (v:Value) (l:List Rep) (hv:RdS I v l) (hl:l.length≤1000000) (hsl:∀r∈l,∀e∈r.options,SmE e) (p:ByteArray) (R:Nat→Nat) (hRt:Rts l R) :
    FnI prog 41 #[v,.string p] I (fun u J=>RdS J u (nI (ofN l R p))):=by
 refine enter func41 call41 rfl ntmps41 rfl fun w0=>?_;refine go 9 ?_;refine d1t (c0c _ _ l hv hl hsl) rfl rfl fun v13 I13 H13 j13 q13=>?_;obtain⟨w,m,F,kvs,fm,rfl,rfl,hK,hM⟩:=q13;have hR:rt F=R:=(hK.done (fun k z hk h=>⟨hk,h⟩)).uniq hRt;have hFl:=hK.len;refine go 11 ?_;refine o_v rfl (a9g m1 (a0H he) he he (p) rfl rfl rfl rfl) ?_;refine gC 14 (fun h23 p23=>?_) fun h23 p23=>?_
 ·have hq0:fm p=none:=by
    cases hq:fm p with
    |none=>rfl
    |some q=>rw[hM,hq]at h23;cases h23
  refine go 8 ?_;have hno:ofN l R p=[]:=d1w fun k hk h=>by obtain⟨q,hq,_⟩:=hK.seen k p ⟨hk,h⟩;rw[hq0]at hq;cases hq
  exact q_i (by rw[hno];exact RdS.nil')
 ·obtain⟨q,hq⟩:∃q,fm p=some q:=by
    cases hq:fm p with
    |none=>rw[hM,hq]at h23;cases h23
    |some q=>exact⟨q,rfl⟩
  have hmg:(a4h kvs p).getD (.int .i64 0) = .int .i64 (q:Int):=by rw[hM,hq];rfl
  rw[hmg];obtain⟨hql,hqh,hqn⟩:=hK.own _ q hq;refine go 4 ?_;refine a0E 3 1 ?_;refine go 6 ?_;refine a0b ?_;refine a1c fun Aw cw hw=>?_;subst hw;refine go 6 ?_;refine a0d ?_;refine a0a ?_
  refine a5t ((0:Nat)) (F) (_) ([]) (I13) (fun i F1 v9 xs J=>J)
   (fun i F1 v9 xs J=>[(5,.slice Aw F.length cw),(7,.int .i64 ((q:Nat):Int)),(9,v9),(25,.int .i64 ((F.length:Nat):Int)),(26,.int .i64 ((i:Nat):Int))])
   (fun i F1 v9 xs J=>.row (.slice Aw F.length cw) 3 1 F.length (b0J F1).flatten :: .row v9 3 1 (a5N R i (R q)).length xs::([]:List Res))
   (fun i F1 v9 xs J=>i≤F.length∧F1.length=F.length∧Fst F1∧(∀k,rt F1 k=R k)∧ILe I13 J∧Flat J xs (nI (a5N R i (R q))))
   (fun i F1 v9 xs J=>F.length-i) ⟨Nat.zero_le _,rfl,hK.fst,fun k=>by rw[hR],ILe.refl _,.nil⟩ rfl sb rfl ?_
  intro i F1 v9 xs J ⟨hi,hF1l,hF1,hr1,hJ,hF⟩;have hml:(a5N R i (R q)).length≤i:=by unfold a5N;exact Nat.le_trans (List.length_filter_le _ _) (by rw[List.length_range];exact Nat.le_refl _)
  refine gC 6 (fun h27 p27=>?_) fun h27 p27=>?_
  ·have hlt:i<F.length:=oM;refine go 12 ?_;refine a6O (a4W F1) (by rw[a4M];exact hF1l) (fun h0 _=>oM) fun g9 cap9 rest9 hv9 hR9 hc9 hl9=>?_
   cases hv9
   refine go 3 ?_;refine a1m (hF1l▸a9y _ g9 cw F1 rest9 hR9 hF1 i oM) rfl rfl fun v31 I31 s31 j31 q31=>?_;have hF:=hF.le j31;obtain⟨G,rfl,rfl,hG,hFG,hr⟩:=q31;rw[hr1 i];refine go 3 ?_;refine a1m (hG▸a9y _ g9 cw G rest9 hR9 hFG q oM) rfl rfl fun v34 I34 s34 j34 q34=>?_;have hF:=hF.le j34;obtain⟨G2,rfl,rfl,hG2,hFG2,hr2⟩:=q34;rw[hr q,hr1 q];refine a2e (a4W G2) hR9 (by rw[a4M];omega) hc9 hl9 ?_;refine gC 3 (fun h35 p35=>?_) fun h35 p35=>?_
   ·refine go 5 fun v38=>?_
    refine go 1 ?_;refine a0d ?_;refine a0O he he rfl rfl rfl rfl rfl oM oM rfl fun v39=>?_;refine go 9 ?_;refine a0b ?_;refine a0a ?_;refine a0b ?_;exact a2Y (i+1) (G2) (_) (_) (_) ⟨oM,oM,hFG2,fun k=>by rw[hr2,hr,hr1],hJ.trans (j31.trans j34),by rw[a7B,if_pos oM,d4H];exact hF.append (.one rfl)⟩ oM rfl sb (by rw[a7B,if_pos oM,List.length_append];rfl)
   ·refine go 8 ?_;exact a2Y (i+1) (G2) (_) (_) (_) ⟨oM,oM,hFG2,fun k=>by rw[hr2,hr,hr1],hJ.trans (j31.trans j34),by rw[a7B,if_neg oM];exact hF⟩ oM rfl sb (by rw[a7B,if_neg oM])
  ·obtain rfl:i=F.length:=oM;refine go 13 ?_;refine a0a ?_;refine a0i (l:=nI (a5N R F.length (R q))) rfl (by rw[a4L]) hF fun I9 j9 R9=>?_;exact q_i (by rw[c3i hRt hqh hqn,←hFl];exact R9)
theorem d4k (I:IMap) (v:Value) (l:List Part) (hv:RdS I v l) (p:ByteArray) :
    FnV prog 80 #[.agg #[v],.string p] I (.string (d1Z p l)):=by
 have hv0:=hv;obtain⟨A,c0,rfl,hA,hc,hm⟩:=hv;refine enter func80 call80 rfl ntmps80 rfl fun w0=>?_;refine go 4 fun g2=>?_
 refine go 7 ?_;refine a1X (d6G _ _ l hv0) rfl rfl fun v9 s9 q9=>?_;obtain⟨m9,kvs,rfl,rfl,hIx,hnd⟩:=q9;refine go 2 fun g5=>?_
 refine go 14 ?_;refine a0d ?_;refine a0a ?_;refine a0b ?_
 refine a0B ((0:Nat)) (p) (fun i q=>I)
  (fun i q=>[(1,.string q),(5,.pointer (some ⟨g5,0,none⟩)),(12,.int .i64 ((l.length:Nat):Int)),(13,.int .i64 ((i:Nat):Int))])
  (fun i q=>[.mp m9 (a1A Value.string kvs),.blk g5 165 [.slice A l.length c0,.map (some m9)]])
  (fun i q=>i≤l.length∧d1Z p l=rootGo l (l.length-i) q)
  (fun i q=>l.length-i) ⟨Nat.zero_le _,rfl⟩ rfl sb rfl ?_
 intro i q ⟨hi,hr⟩;refine gC 6 (fun h14 p14=>?_) fun h14 p14=>?_
 ·have hlt:i<l.length:=oM;refine go 9 ?_;refine a8B (c6e _ _ l hv0 m9 kvs hIx q) rfl rfl fun v18 q18=>?_;obtain⟨vs18,rfl,s18,rfl,hs18⟩:=q18;refine go 5 fun g6=>?_
  refine go 1 ?_;refine a0Y _ he rfl rfl rfl rfl rfl (Enc.one (α:=Part) (I:=I) (x:=(a0e l q).getD zPart) ⟨s18,rfl,hs18⟩) ?_;refine gC 10 (fun h22 p22=>?_) fun h22 p22=>?_
  ·refine go 13 ?_;exact q_v (congrArg Value.string (by rw[hr];exact (c4a hlt (by simpa using h22)).symm))
  ·refine gC 10 (fun h25 p25=>?_) fun h25 p25=>?_
   ·refine go 14 ?_;exact q_v (congrArg Value.string (by rw[hr];exact (c3Y hlt (by simpa using h22) p25).symm))
   ·refine go 14 ?_;refine a0a ?_;exact a0o (i+1) (((a0e l q).getD zPart).into) ⟨oM,by rw[hr];exact c3Z hlt (by simpa using h22) p25⟩ oM rfl sb rfl
 ·refine go 12 ?_;obtain rfl:i=l.length:=oM;exact q_v (congrArg Value.string (by rw[hr,Nat.sub_self];rfl))
end Go.Proofs.YtgmkjpafapgccaaGreat
