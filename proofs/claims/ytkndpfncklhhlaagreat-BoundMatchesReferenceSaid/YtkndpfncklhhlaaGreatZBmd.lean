
import Derived.Test.YtkndpfncklhhlaaGreatZBmc
import Derived.Laws.Shifts
import Derived.Scope
namespace Go.Proofs.YtkndpfncklhhlaaGreat
open Go Go.Sx Tryz
set_option linter.all false
set_option maxRecDepth 20000
set_option maxHeartbeats 4000000
instance:Has (a2A prog 282) ([.int .i64 0,.int .i64 0,.string ⟨#[]⟩,.string ⟨#[]⟩,.string ⟨#[]⟩,.string ⟨#[]⟩,.string ⟨#[]⟩,.string ⟨#[]⟩,.int .i64 0,.int .i64 0,.int .i64 0,.int .i64 0,.int .i64 0,.int .i64 0,.int .i64 0],15,168):=hk
instance:Has (a9w prog 280) (282,15):=hk
instance:Has (a3C prog 282 0) (0,true,14):=hk
instance:Has (a3C prog 282 1) (14,false,1):=hk
instance:Has (plK prog 282) [(0,14),(14,1)]:=hk
instance:Has (tyK prog 282) (true,15):=hk
instance:Has (prog.underlying 280) (.slice 282):=hk
instance:Has (a2r prog 282) [.int .i64 0,.int .i64 0,.string ⟨#[]⟩,.string ⟨#[]⟩,.string ⟨#[]⟩,.string ⟨#[]⟩,.string ⟨#[]⟩,.string ⟨#[]⟩,.int .i64 0,.int .i64 0,.int .i64 0,.int .i64 0,.int .i64 0,.int .i64 0,.int .i64 0]:=hk
instance:Has (a2r prog 3) [.int .i64 0]:=hk
theorem a8d (I:IMap) {rest:Rst 15} {cap:Nat} (l:List Pkd) (N:Nat) (hN:l.length=N) (g a b n:Nat) (f:FuncId) (h:a+n≤b) (hb:b+n≤l.length) (hl:l.length≤1000000) :
    FnM prog 264 #[.slice (some ⟨g,0,none⟩) N cap,.int .i64 ((a:Nat):Int),.int .i64 ((b:Nat):Int),.int .i64 ((n:Nat):Int),.func (.func f) #[] #[]] I (.blk g 282 (a1C (l)++rest.l).flatten) (.blk g 282 (a1C (a9e l a b n)++rest.l).flatten):=by
 refine enter func264 call264 rfl ntmps264 rfl fun w0=>?_;refine go 6 ?_
 refine a0w (α:=Nat) 0 (fun i=>I)
  (fun i=>[(0,.slice (some ⟨g,0,none⟩) N cap),(1,.int .i64 ((a:Nat):Int)),(2,.int .i64 ((b:Nat):Int)),(3,.int .i64 ((n:Nat):Int)),(10,.int .i64 ((i:Nat):Int))])
  (fun i=>[.blk g 282 (a1C (a9e l a b i)++rest.l).flatten])
  (fun i=>i≤n)
  (fun i=>n-i) (Nat.zero_le _) rfl sb rfl ?_
 intro i hi;refine gC 8 (fun h13 p13=>?_) fun h13 p13=>?_
 ·have hlt:i<n:=oM;have hm:=a3N l a b i;have h1:a+i<(a9e l a b i).length:=oM;have h2:b+i<(a9e l a b i).length:=oM;refine go 4 ?_;refine ds1 ?_;refine dG 0 12 ?_;refine a0F 12 rfl rfl (by kernel_rfl) rfl (.cons _ .slnil) rfl (a0i he rfl rfl rfl (b+i) oM oM) ?_;refine dG 14 4 ?_;refine a0F 18 rfl rfl (by kernel_rfl) rfl (.cons _ .slnil) rfl (a0i he rfl rfl rfl (a+i) oM oM) ?_;refine dT2 13 19 ?_ ?_
  ·refine a0k rfl (a1L m0 ((a0n _).append rest.uk) he rfl (b+i) oM (a0N h2)) ?_;refine dH 19 0 ?_;refine a0k rfl (a1L m0 ((a0n _).append rest.uk) he rfl (a+i) oM (a0N h1)) ?_;refine go 1 ?_;refine a0F 20 rfl rfl (by kernel_rfl) rfl (.cons _ .slnil) rfl (a0i he rfl rfl rfl (a+i) oM oM) ?_;refine dH 21 0 ?_;refine a1Q _ (a+i) (by first|exact (a0n _).append rest.uk|exact ((a0n _).append rest.uk).set rfl _) he rfl rfl rfl rfl rfl oM (by simp[a0v];omega) ?_;refine go 1 ?_;refine a0F 22 rfl rfl (by kernel_rfl) rfl (.cons _ .slnil) rfl (a0i he rfl rfl rfl (b+i) oM oM) ?_;refine dH 23 0 ?_;refine a1Q _ (b+i) (by first|exact (a0n _).append rest.uk|exact ((a0n _).append rest.uk).set rfl _) he rfl rfl rfl rfl rfl oM (by simp[a0v];omega) ?_;refine go 10 ?_;exact a0s (i+1) oM oM rfl sb (by rw[a9e];first|rw[←a3R h1 h2] | rw[←a3p h1 h2 oM])
  ·refine a0k rfl (a1L m0 ((a0n _).append rest.uk) he rfl (a+i) oM (a0N h1)) ?_;refine dH 13 0 ?_;refine a0k rfl (a1L m0 ((a0n _).append rest.uk) he rfl (b+i) oM (a0N h2)) ?_;refine go 1 ?_;refine a0F 20 rfl rfl (by kernel_rfl) rfl (.cons _ .slnil) rfl (a0i he rfl rfl rfl (a+i) oM oM) ?_;refine dH 21 0 ?_;refine a1Q _ (a+i) (by first|exact (a0n _).append rest.uk|exact ((a0n _).append rest.uk).set rfl _) he rfl rfl rfl rfl rfl oM (by simp[a0v];omega) ?_;refine go 1 ?_;refine a0F 22 rfl rfl (by kernel_rfl) rfl (.cons _ .slnil) rfl (a0i he rfl rfl rfl (b+i) oM oM) ?_;refine dH 23 0 ?_;refine a1Q _ (b+i) (by first|exact (a0n _).append rest.uk|exact ((a0n _).append rest.uk).set rfl _) he rfl rfl rfl rfl rfl oM (by simp[a0v];omega) ?_;refine go 10 ?_;exact a0s (i+1) oM oM rfl sb (by rw[a9e];first|rw[←a3R h1 h2] | rw[←a3p h1 h2 oM])
 ·refine go 5 ?_;obtain rfl:i=n:=oM;exact q_m
theorem b6r (I:IMap) {rest:Rst 15} {cap:Nat} (l:List Pkd) (N:Nat) (hN:l.length=N) (g a b:Nat) (f:FuncId) (hp:∀x y:Pkd,FnV prog f #[.agg (Day.ch x).toArray,.agg (Day.ch y).toArray] I (.int .i64 ((Day.day x-Day.day y)))) (hab:a≤b) (hb:b≤l.length) (hl:l.length≤1000000) :
    FnX prog 260 #[.slice (some ⟨g,0,none⟩) N cap,.int .i64 ((a:Nat):Int),.int .i64 ((b:Nat):Int),.func (.func f) #[] #[]] I [.blk g 282 (a1C (l)++rest.l).flatten] (fun u r=>u = .tuple #[]∧∃m,r = .blk g 282 (a1C (m)++rest.l).flatten∧Seg l m a b):=by
 refine enter func260 call260 rfl ntmps260 rfl fun w0=>?_;refine go 3 ?_;refine o_v rfl (OV.cast (u:=.int .i64 ((a+1:Nat):Int)) (a2T rfl rfl ⟨oM,oM⟩) (congrArg (Value.int .i64) oM)) ?_;refine go 4 ?_
 refine a1i (a+1) (l) (fun i m=>I)
  (fun i m=>[(0,.slice (some ⟨g,0,none⟩) N cap),(1,.int .i64 ((a:Nat):Int)),(2,.int .i64 ((b:Nat):Int)),(3,.func (.func f) #[] #[]),(8,.int .i64 ((i:Nat):Int))])
  (fun i m=>[.blk g 282 (a1C (m)++rest.l).flatten])
  (fun i m=>a+1≤i∧(i≤b∨(m=l∧i=a+1))∧Seg l m a i)
  (fun i m=>b-i) ⟨Nat.le_refl _,.inr ⟨rfl,rfl⟩,Seg.one l a⟩ rfl sb rfl ?_
 intro i m ⟨h1,h2,hs⟩;refine gC 8 (fun h14 p14=>?_) fun h14 p14=>?_
 ·have hlt:i<b:=oM;refine go 11 ?_
  refine a1i (i) (m) (fun j k=>I)
   (fun j k=>[(0,.slice (some ⟨g,0,none⟩) N cap),(1,.int .i64 ((a:Nat):Int)),(2,.int .i64 ((b:Nat):Int)),(3,.func (.func f) #[] #[]),(8,.int .i64 ((i:Nat):Int)),(9,.int .i64 ((j:Nat):Int))])
   (fun j k=>[.blk g 282 (a1C (k)++rest.l).flatten])
   (fun j k=>a≤j∧j≤i∧Ins l k a i j)
   (fun j k=>j) ⟨oM,Nat.le_refl _,Ins.start hs⟩ rfl sb rfl ?_
  intro j k ⟨hj1,hj2,hk⟩;have hkl:=hk.len;refine go 3 ?_;refine dG 0 4 ?_;refine gS 0 21 (fun h21 p21=>?_) fun h21 p21=>?_
  ·have hjk:j<k.length:=oM;have hjk1:j-1<k.length:=oM;refine dG 4 3 ?_;refine d_t 7 rfl rfl (by kernel_rfl) rfl (fun _ m=>m.keeps (.refl _)) (a2L rfl rfl h21 (a0i he rfl rfl rfl (j) oM oM)) ?_;refine d_t 8 rfl rfl (by kernel_rfl) rfl (fun _ m=>m.keeps (.refl _)) (a2L rfl rfl h21 (a1L m0 ((a0n _).append rest.uk) he rfl (j) oM (a0N hjk))) ?_;refine dG 9 3 ?_;refine d_t 12 rfl rfl (by kernel_rfl) rfl (fun _ m=>m.keeps (.refl _)) (a2L rfl rfl h21 (a0i he rfl rfl rfl (j-1) oM oM)) ?_;refine d_t 13 rfl rfl (by kernel_rfl) rfl (fun _ m=>m.keeps (.refl _)) (a2L rfl rfl h21 (a1L m0 ((a0n _).append rest.uk) he rfl (j-1) oM (a0N hjk1))) ?_;refine dH 14 0 ?_;refine a0z rfl rfl h21 (a0x (hp _ _) rfl rfl ?_);refine dG 15 2 ?_;refine gC 2 (fun h34 p34=>?_) fun h34 p34=>?_
   ·refine go 4 ?_;refine ds1 ?_;refine dG 0 8 ?_;refine a0F 8 rfl rfl (by kernel_rfl) rfl (.cons _ .slnil) rfl (a0i he rfl rfl rfl (j-1) oM oM) ?_;refine dG 10 2 ?_;refine a0F 12 rfl rfl (by kernel_rfl) rfl (.cons _ .slnil) rfl (a0i he rfl rfl rfl (j) oM oM) ?_;refine dT2 9 13 ?_ ?_
    ·refine a0k rfl (a1L m0 ((a0n _).append rest.uk) he rfl (j-1) oM (a0N hjk1)) ?_;refine dH 13 0 ?_;refine a0k rfl (a1L m0 ((a0n _).append rest.uk) he rfl (j) oM (a0N hjk)) ?_;refine go 1 ?_;refine a0F 14 rfl rfl (by kernel_rfl) rfl (.cons _ .slnil) rfl (a0i he rfl rfl rfl (j) oM oM) ?_;refine dH 15 0 ?_;refine a1Q _ (j) (by first|exact (a0n _).append rest.uk|exact ((a0n _).append rest.uk).set rfl _) he rfl rfl rfl rfl rfl oM (by simp[a0v];omega) ?_;refine go 1 ?_;refine a0F 16 rfl rfl (by kernel_rfl) rfl (.cons _ .slnil) rfl (a0i he rfl rfl rfl (j-1) oM oM) ?_;refine dH 17 0 ?_;refine a1Q _ (j-1) (by first|exact (a0n _).append rest.uk|exact ((a0n _).append rest.uk).set rfl _) he rfl rfl rfl rfl rfl oM (by simp[a0v];omega) ?_;refine go 6 ?_;refine o_v rfl (OV.cast (u:=.int .i64 ((j-1:Nat):Int)) (a1v rfl rfl ⟨oM,oM⟩) (congrArg (Value.int .i64) oM)) ?_;refine go 3 ?_;exact a0t (j-1) (swp k j (j-1)) ⟨oM,oM,hk.step oM oM oM (by have:=p34;simp only[a7K]at this;rw[a1q oM,a1q oM];exact this)⟩ oM rfl sb (by first|rw[←a3R (show j<k.length from oM) (show j-1<k.length from oM)] | rw[←a3p (show j<k.length from oM) (show j-1<k.length from oM) oM])
    ·refine a0k rfl (a1L m0 ((a0n _).append rest.uk) he rfl (j) oM (a0N hjk)) ?_;refine dH 9 0 ?_;refine a0k rfl (a1L m0 ((a0n _).append rest.uk) he rfl (j-1) oM (a0N hjk1)) ?_;refine go 1 ?_;refine a0F 14 rfl rfl (by kernel_rfl) rfl (.cons _ .slnil) rfl (a0i he rfl rfl rfl (j) oM oM) ?_;refine dH 15 0 ?_;refine a1Q _ (j) (by first|exact (a0n _).append rest.uk|exact ((a0n _).append rest.uk).set rfl _) he rfl rfl rfl rfl rfl oM (by simp[a0v];omega) ?_;refine go 1 ?_;refine a0F 16 rfl rfl (by kernel_rfl) rfl (.cons _ .slnil) rfl (a0i he rfl rfl rfl (j-1) oM oM) ?_;refine dH 17 0 ?_;refine a1Q _ (j-1) (by first|exact (a0n _).append rest.uk|exact ((a0n _).append rest.uk).set rfl _) he rfl rfl rfl rfl rfl oM (by simp[a0v];omega) ?_;refine go 6 ?_;refine o_v rfl (OV.cast (u:=.int .i64 ((j-1:Nat):Int)) (a1v rfl rfl ⟨oM,oM⟩) (congrArg (Value.int .i64) oM)) ?_;refine go 3 ?_;exact a0t (j-1) (swp k j (j-1)) ⟨oM,oM,hk.step oM oM oM (by have:=p34;simp only[a7K]at this;rw[a1q oM,a1q oM];exact this)⟩ oM rfl sb (by first|rw[←a3R (show j<k.length from oM) (show j-1<k.length from oM)] | rw[←a3p (show j<k.length from oM) (show j-1<k.length from oM) oM])
   ·refine go 12 ?_;exact a0t (i+1) (k) ⟨oM,.inl oM,hk.done oM oM (.inr (by have:=p34;simp only[a7K]at this;rw[a1q oM,a1q oM];omega))⟩ oM rfl sb rfl
  ·refine dG 4 13 ?_;refine go 15 ?_;exact a0t (i+1) (k) ⟨oM,.inl oM,hk.done oM oM (.inl oM)⟩ oM rfl sb rfl
 ·refine go 5 ?_;exact q_x (by refine⟨rfl,m,rfl,?_⟩;rcases h2 with h2|⟨rfl,h2⟩;exact (show i=b from oM)▸hs;exact Seg.none oM)
theorem c9s (I:IMap) {rest:Rst 15} {cap:Nat} (l:List Pkd) (N:Nat) (hN:l.length=N) (g a m b:Nat) (f:FuncId) (ham:a<m) (hmb:m<b) (hb:b≤l.length) (hl:l.length≤1000000) :
    FnX prog 263 #[.slice (some ⟨g,0,none⟩) N cap,.int .i64 ((a:Nat):Int),.int .i64 ((m:Nat):Int),.int .i64 ((b:Nat):Int),.func (.func f) #[] #[]] I [.blk g 282 (a1C (l)++rest.l).flatten] (fun u r=>u = .tuple #[]∧∃k,r = .blk g 282 (a1C (k)++rest.l).flatten∧k.length=l.length∧∀q,k[q]? = a8b (l[·]?) m (m-a) (b-m) q):=by
 refine enter func263 call263 rfl ntmps263 rfl fun w0=>?_;refine go 4 ?_;refine o_v rfl (OV.cast (u:=.int .i64 ((m-a:Nat):Int)) (a1v rfl rfl ⟨oM,oM⟩) (congrArg (Value.int .i64) oM)) ?_;refine go 7 ?_;refine o_v rfl (OV.cast (u:=.int .i64 ((b-m:Nat):Int)) (a1v rfl rfl ⟨oM,oM⟩) (congrArg (Value.int .i64) oM)) ?_;refine go 5 ?_
 refine a2B (m-a) (b-m) (l) (fun i j k=>I)
  (fun i j k=>[(0,.slice (some ⟨g,0,none⟩) N cap),(1,.int .i64 ((a:Nat):Int)),(2,.int .i64 ((m:Nat):Int)),(3,.int .i64 ((b:Nat):Int)),(4,.func (.func f) #[] #[]),(10,.int .i64 ((i:Nat):Int)),(11,.int .i64 ((j:Nat):Int))])
  (fun i j k=>[.blk g 282 (a1C (k)++rest.l).flatten])
  (fun i j k=>1≤i∧1≤j∧i≤m∧m+j≤l.length∧k.length=l.length∧∀q,a8b (k[·]?) m i j q=a8b (l[·]?) m (m-a) (b-m) q)
  (fun i j k=>i+j) ⟨oM,oM,oM,oM,rfl,fun q=>rfl⟩ rfl sb rfl ?_
 intro i j k ⟨hi1,hj1,him,hmj,hkl,hk⟩;refine gC 8 (fun h20 p20=>?_) fun h20 p20=>?_
 ·refine gC 10 (fun h23 p23=>?_) fun h23 p23=>?_
  ·refine go 5 ?_;refine o_v rfl (OV.cast (u:=.int .i64 ((m-i:Nat):Int)) (a1v rfl rfl ⟨oM,oM⟩) (congrArg (Value.int .i64) oM)) ?_;refine go 4 ?_;refine a4v (a8d _ k N oM g (m-i) m j f oM oM oM) rfl rfl ?_;refine go 5 ?_;refine o_v rfl (OV.cast (u:=.int .i64 ((i-j:Nat):Int)) (a1v rfl rfl ⟨oM,oM⟩) (congrArg (Value.int .i64) oM)) ?_;refine go 4 ?_;exact a1r (i-j) (j) (a9e k (m-i) m j) ⟨oM,oM,oM,oM,(a3N _ _ _ _).trans hkl,fun q=>(c6V oM oM (a5D _ oM oM) q).trans (hk q)⟩ oM rfl sb rfl
  ·refine go 5 ?_;refine o_v rfl (OV.cast (u:=.int .i64 ((m-i:Nat):Int)) (a1v rfl rfl ⟨oM,oM⟩) (congrArg (Value.int .i64) oM)) ?_;refine go 4 ?_;refine o_v rfl (OV.cast (u:=.int .i64 ((m+j-i:Nat):Int)) (a1v rfl rfl ⟨oM,oM⟩) (congrArg (Value.int .i64) oM)) ?_;refine go 3 ?_;refine a4v (a8d _ k N oM g (m-i) (m+j-i) i f oM oM oM) rfl rfl ?_;refine go 5 ?_;refine o_v rfl (OV.cast (u:=.int .i64 ((j-i:Nat):Int)) (a1v rfl rfl ⟨oM,oM⟩) (congrArg (Value.int .i64) oM)) ?_;refine go 4 ?_;exact a1r (i) (j-i) (a9e k (m-i) (m+j-i) i) ⟨oM,oM,oM,oM,(a3N _ _ _ _).trans hkl,fun q=>(c6W oM oM (a5D _ oM oM) q).trans (hk q)⟩ oM rfl sb rfl
 ·obtain rfl:i=j:=by have:=p20;omega
  refine go 9 ?_;refine o_v rfl (OV.cast (u:=.int .i64 ((m-i:Nat):Int)) (a1v rfl rfl ⟨oM,oM⟩) (congrArg (Value.int .i64) oM)) ?_;refine go 4 ?_;refine a4v (a8d _ k N oM g (m-i) m i f oM oM oM) rfl rfl ?_;refine go 2 ?_;exact q_x ⟨rfl,a9e k (m-i) m i,rfl,(a3N _ _ _ _).trans hkl,fun q=>(c6U him (a5D _ oM oM) q).trans (hk q)⟩
theorem b9i (I:IMap) {rest:Rst 15} {cap:Nat} (N g:Nat) (f:FuncId) (hp:∀x y:Pkd,FnV prog f #[.agg (Day.ch x).toArray,.agg (Day.ch y).toArray] I (.int .i64 ((Day.day x-Day.day y)))) (hN0:N≤1000000) (W:Nat) (ih:∀(l:List Pkd) (a m b:Nat),l.length=N→b-a<W→a<m→m<b→b≤l.length→SrtD l a m→SrtD l m b→FnX prog 261 #[.slice (some ⟨g,0,none⟩) N cap,.int .i64 ((a:Nat):Int),.int .i64 ((m:Nat):Int),.int .i64 ((b:Nat):Int),.func (.func f) #[] #[]] I [.blk g 282 (a1C (l)++rest.l).flatten] (fun u r=>u = .tuple #[]∧∃m,r = .blk g 282 (a1C (m)++rest.l).flatten∧Seg l m a b)) (l:List Pkd) (a m b:Nat) (hN:l.length=N) (hW:b-a≤W) (ham:a<m) (hmb:m<b) (hb:b≤l.length) (m1:SrtD l a m) (m2:SrtD l m b) :
    FnX prog 261 #[.slice (some ⟨g,0,none⟩) N cap,.int .i64 ((a:Nat):Int),.int .i64 ((m:Nat):Int),.int .i64 ((b:Nat):Int),.func (.func f) #[] #[]] I [.blk g 282 (a1C (l)++rest.l).flatten] (fun u r=>u = .tuple #[]∧∃m,r = .blk g 282 (a1C (m)++rest.l).flatten∧Seg l m a b):=by
 refine enter func261 call261 rfl ntmps261 rfl fun w0=>?_;refine go 5 ?_;refine o_v rfl (OV.cast (u:=.int .i64 ((m-a:Nat):Int)) (a1v rfl rfl ⟨oM,oM⟩) (congrArg (Value.int .i64) oM)) ?_;refine gC 3 (fun h28 p28=>?_) fun h28 p28=>?_
 ·obtain rfl:m=a+1:=oM;refine go 14 ?_
  refine a1i (a+1) (b) (fun i j=>I)
   (fun i j=>[(0,.slice (some ⟨g,0,none⟩) N cap),(1,.int .i64 ((a:Nat):Int)),(2,.int .i64 ((a+1:Nat):Int)),(3,.int .i64 ((b:Nat):Int)),(4,.func (.func f) #[] #[]),(10,.int .i64 ((i:Nat):Int)),(11,.int .i64 ((j:Nat):Int))])
   (fun i j=>[.blk g 282 (a1C (l)++rest.l).flatten])
   (fun i j=>a+1≤i∧i≤j∧j≤b∧(∀q,a+1≤q→q<i→a0u l q<a0u l a)∧(∀q,j≤q→q<b→a0u l a≤a0u l q))
   (fun i j=>j-i) ⟨oM,oM,oM,fun q _ _=>oM,fun q _ _=>oM⟩ rfl sb rfl ?_
  intro i j ⟨hi1,hij,hjb,hlo,hhi⟩;refine gC 8 (fun h33 p33=>?_) fun h33 p33=>?_
  ·have hh:(i+j) / 2<l.length:=oM;have ha0:a<l.length:=oM;refine go 8 ?_;refine o_v rfl (a2d he he rfl (m:=(i:Int)+(j:Int)) (wrap_u64 _ oM oM)) ?_;refine o_v rfl (a6J rfl (by decide)) ?_;refine o_v rfl (a2d he he rfl (m:=(((i+j) / 2:Nat):Int)) (by rw[IntKind.wrap_i64];omega)) ?_;refine go 5 ?_;refine dG 0 3 ?_;refine a0F 3 rfl rfl (by kernel_rfl) rfl (.refl _) rfl (a0i he rfl rfl rfl ((i+j) / 2) oM oM) ?_;refine a0F 4 rfl rfl (by kernel_rfl) rfl (.refl _) rfl (a1L m0 ((a0n _).append rest.uk) he rfl ((i+j) / 2) oM (a0N hh)) ?_;refine dG 5 2 ?_;refine a0F 7 rfl rfl (by kernel_rfl) rfl (.refl _) rfl (a0i he rfl rfl rfl (a) oM oM) ?_;refine a0F 8 rfl rfl (by kernel_rfl) rfl (.refl _) rfl (a1L m0 ((a0n _).append rest.uk) he rfl (a) oM (a0N ha0)) ?_;refine dH 9 0 ?_;refine cV (hp _ _) ?_;refine dG 10 1 ?_;refine gC 2 (fun h50 p50=>?_) fun h50 p50=>?_
   ·refine go 7 ?_;exact a0t ((i+j) / 2+1) (j) ⟨oM,oM,oM,fun q q1 q2=>by have:=m2.le (p:=q) (q:=(i+j) / 2) q1 oM oM;have:=b4F p50;omega,hhi⟩ oM rfl sb rfl
   ·refine go 6 ?_;exact a0t (i) ((i+j) / 2) ⟨oM,oM,oM,hlo,fun q q1 q2=>by have:=m2.le (p:=(i+j) / 2) (q:=q) oM q1 q2;have:=b4E p50;omega⟩ oM rfl sb rfl
  ·obtain rfl:i=j:=oM;refine go 13 ?_
   refine a0w (α:=Nat) 0 (fun t=>I)
    (fun t=>[(0,.slice (some ⟨g,0,none⟩) N cap),(1,.int .i64 ((a:Nat):Int)),(2,.int .i64 ((a+1:Nat):Int)),(3,.int .i64 ((b:Nat):Int)),(4,.func (.func f) #[] #[]),(10,.int .i64 ((i:Nat):Int)),(13,.int .i64 ((a+t:Nat):Int))])
    (fun t=>[.blk g 282 (a1C (bub l a t)++rest.l).flatten])
    (fun t=>a+t+1≤i)
    (fun t=>i-t) oM rfl sb rfl ?_
   intro t ht;refine go 5 ?_;refine o_v rfl (OV.cast (u:=.int .i64 ((i-1:Nat):Int)) (a1v rfl rfl ⟨oM,oM⟩) (congrArg (Value.int .i64) oM)) ?_;refine gC 3 (fun h58 p58=>?_) fun h58 p58=>?_
   ·have hbl:=a9q l a t;have hk1:a+t<(bub l a t).length:=oM;have hk2:a+t+1<(bub l a t).length:=oM;refine go 4 ?_;refine ds1 ?_;refine dG 0 4 ?_;refine a0F 4 rfl rfl (by kernel_rfl) rfl (.cons _ .slnil) rfl (OV.cast (u:=.int .i64 ((a+t+1:Nat):Int)) (a2T rfl rfl ⟨oM,oM⟩) (congrArg (Value.int .i64) oM)) ?_;refine dG 5 2 ?_;refine a0F 7 rfl rfl (by kernel_rfl) rfl (.cons _ .slnil) rfl (OV.cast (u:=.int .i64 ((a+t+1:Nat):Int)) (a2T rfl rfl ⟨oM,oM⟩) (congrArg (Value.int .i64) oM)) ?_;refine a0F 8 rfl rfl (by kernel_rfl) rfl (.cons _ .slnil) rfl (a0i he rfl rfl rfl (a+t+1) oM oM) ?_;refine dG 10 2 ?_;refine a0F 12 rfl rfl (by kernel_rfl) rfl (.cons _ .slnil) rfl (a0i he rfl rfl rfl (a+t) oM oM) ?_;refine dT2 9 13 ?_ ?_
    ·refine a0k rfl (a1L m0 ((a0n _).append rest.uk) he rfl (a+t+1) oM (a0N hk2)) ?_;refine dH 13 0 ?_;refine a0k rfl (a1L m0 ((a0n _).append rest.uk) he rfl (a+t) oM (a0N hk1)) ?_;refine go 1 ?_;refine a0F 14 rfl rfl (by kernel_rfl) rfl (.cons _ .slnil) rfl (a0i he rfl rfl rfl (a+t) oM oM) ?_;refine dH 15 0 ?_;refine a1Q _ (a+t) (by first|exact (a0n _).append rest.uk|exact ((a0n _).append rest.uk).set rfl _) he rfl rfl rfl rfl rfl oM (by simp[a0v];omega) ?_;refine go 1 ?_;refine a0F 16 rfl rfl (by kernel_rfl) rfl (.cons _ .slnil) rfl (a0i he rfl rfl rfl (a+t+1) oM oM) ?_;refine dH 17 0 ?_;refine a1Q _ (a+t+1) (by first|exact (a0n _).append rest.uk|exact ((a0n _).append rest.uk).set rfl _) he rfl rfl rfl rfl rfl oM (by simp[a0v];omega) ?_;refine go 6 ?_;refine o_v rfl (OV.cast (u:=.int .i64 ((a+(t+1):Nat):Int)) (a2T rfl rfl ⟨oM,oM⟩) (congrArg (Value.int .i64) oM)) ?_;refine go 3 ?_;exact a0s (t+1) oM oM rfl sb (by rw[bub];first|rw[←a3R hk1 hk2] | rw[←a3p hk1 hk2 oM])
    ·refine a0k rfl (a1L m0 ((a0n _).append rest.uk) he rfl (a+t) oM (a0N hk1)) ?_;refine dH 9 0 ?_;refine a0k rfl (a1L m0 ((a0n _).append rest.uk) he rfl (a+t+1) oM (a0N hk2)) ?_;refine go 1 ?_;refine a0F 14 rfl rfl (by kernel_rfl) rfl (.cons _ .slnil) rfl (a0i he rfl rfl rfl (a+t) oM oM) ?_;refine dH 15 0 ?_;refine a1Q _ (a+t) (by first|exact (a0n _).append rest.uk|exact ((a0n _).append rest.uk).set rfl _) he rfl rfl rfl rfl rfl oM (by simp[a0v];omega) ?_;refine go 1 ?_;refine a0F 16 rfl rfl (by kernel_rfl) rfl (.cons _ .slnil) rfl (a0i he rfl rfl rfl (a+t+1) oM oM) ?_;refine dH 17 0 ?_;refine a1Q _ (a+t+1) (by first|exact (a0n _).append rest.uk|exact ((a0n _).append rest.uk).set rfl _) he rfl rfl rfl rfl rfl oM (by simp[a0v];omega) ?_;refine go 6 ?_;refine o_v rfl (OV.cast (u:=.int .i64 ((a+(t+1):Nat):Int)) (a2T rfl rfl ⟨oM,oM⟩) (congrArg (Value.int .i64) oM)) ?_;refine go 3 ?_;exact a0s (t+1) oM oM rfl sb (by rw[bub];first|rw[←a3R hk1 hk2] | rw[←a3p hk1 hk2 oM])
   ·refine go 8 ?_;exact q_x ⟨rfl,_,rfl,(show i-1-a=t from oM)▸b6C m2 hi1 hjb hb hlo hhi⟩
 ·have hma:a+2≤m:=oM;refine go 7 ?_;refine o_v rfl (OV.cast (u:=.int .i64 ((b-m:Nat):Int)) (a1v rfl rfl ⟨oM,oM⟩) (congrArg (Value.int .i64) oM)) ?_;refine gC 3 (fun h80 p80=>?_) fun h80 p80=>?_
  ·obtain rfl:b=m+1:=oM;refine go 14 ?_
   refine a1i (a) (m) (fun i j=>I)
    (fun i j=>[(0,.slice (some ⟨g,0,none⟩) N cap),(1,.int .i64 ((a:Nat):Int)),(2,.int .i64 ((m:Nat):Int)),(3,.int .i64 ((m+1:Nat):Int)),(4,.func (.func f) #[] #[]),(14,.int .i64 ((i:Nat):Int)),(15,.int .i64 ((j:Nat):Int))])
    (fun i j=>[.blk g 282 (a1C (l)++rest.l).flatten])
    (fun i j=>a≤i∧i≤j∧j≤m∧(∀q,a≤q→q<i→a0u l q≤a0u l m)∧(∀q,j≤q→q<m→a0u l m<a0u l q))
    (fun i j=>j-i) ⟨oM,oM,oM,fun q _ _=>oM,fun q _ _=>oM⟩ rfl sb rfl ?_
   intro i j ⟨hi1,hij,hjb,hlo,hhi⟩;refine gC 8 (fun h85 p85=>?_) fun h85 p85=>?_
   ·have hh:(i+j) / 2<l.length:=oM;have hm0:m<l.length:=oM;refine go 8 ?_;refine o_v rfl (a2d he he rfl (m:=(i:Int)+(j:Int)) (wrap_u64 _ oM oM)) ?_;refine o_v rfl (a6J rfl (by decide)) ?_;refine o_v rfl (a2d he he rfl (m:=(((i+j) / 2:Nat):Int)) (by rw[IntKind.wrap_i64];omega)) ?_;refine go 5 ?_;refine dG 0 3 ?_;refine a0F 3 rfl rfl (by kernel_rfl) rfl (.refl _) rfl (a0i he rfl rfl rfl (m) oM oM) ?_;refine a0F 4 rfl rfl (by kernel_rfl) rfl (.refl _) rfl (a1L m0 ((a0n _).append rest.uk) he rfl (m) oM (a0N hm0)) ?_;refine dG 5 2 ?_;refine a0F 7 rfl rfl (by kernel_rfl) rfl (.refl _) rfl (a0i he rfl rfl rfl ((i+j) / 2) oM oM) ?_;refine a0F 8 rfl rfl (by kernel_rfl) rfl (.refl _) rfl (a1L m0 ((a0n _).append rest.uk) he rfl ((i+j) / 2) oM (a0N hh)) ?_;refine dH 9 0 ?_;refine cV (hp _ _) ?_;refine dG 10 2 ?_;refine gC 2 (fun h103 p103=>?_) fun h103 p103=>?_
    ·refine go 7 ?_;exact a0t ((i+j) / 2+1) (j) ⟨oM,oM,oM,fun q q1 q2=>by have:=m1.le (p:=q) (q:=(i+j) / 2) q1 oM oM;have:=b4E p103;omega,hhi⟩ oM rfl sb rfl
    ·refine go 6 ?_;exact a0t (i) ((i+j) / 2) ⟨oM,oM,oM,hlo,fun q q1 q2=>by have:=m1.le (p:=(i+j) / 2) (q:=q) oM q1 q2;have:=b4F p103;omega⟩ oM rfl sb rfl
   ·obtain rfl:i=j:=oM;refine go 13 ?_
    refine a0w (α:=Nat) 0 (fun t=>I)
     (fun t=>[(0,.slice (some ⟨g,0,none⟩) N cap),(1,.int .i64 ((a:Nat):Int)),(2,.int .i64 ((m:Nat):Int)),(3,.int .i64 ((m+1:Nat):Int)),(4,.func (.func f) #[] #[]),(14,.int .i64 ((i:Nat):Int)),(17,.int .i64 ((m-t:Nat):Int))])
     (fun t=>[.blk g 282 (a1C (bud l m t)++rest.l).flatten])
     (fun t=>t+i≤m)
     (fun t=>m-t) oM rfl ⟨rfl,rfl,rfl,rfl,rfl,rfl,congrArg (fun z:Int=>some (Value.int .i64 z)) oM,trivial⟩ rfl ?_
    intro t ht;refine gC 8 (fun h110 p110=>?_) fun h110 p110=>?_
    ·have hbl:=a9r l m t;have hk1:m-t<(bud l m t).length:=oM;have hk2:m-t-1<(bud l m t).length:=oM;refine go 4 ?_;refine ds1 ?_;refine dG 0 4 ?_;refine a0F 4 rfl rfl (by kernel_rfl) rfl (.cons _ .slnil) rfl (OV.cast (u:=.int .i64 ((m-t-1:Nat):Int)) (a1v rfl rfl ⟨oM,oM⟩) (congrArg (Value.int .i64) oM)) ?_;refine dG 5 2 ?_;refine a0F 7 rfl rfl (by kernel_rfl) rfl (.cons _ .slnil) rfl (OV.cast (u:=.int .i64 ((m-t-1:Nat):Int)) (a1v rfl rfl ⟨oM,oM⟩) (congrArg (Value.int .i64) oM)) ?_;refine a0F 8 rfl rfl (by kernel_rfl) rfl (.cons _ .slnil) rfl (a0i he rfl rfl rfl (m-t-1) oM oM) ?_;refine dG 10 2 ?_;refine a0F 12 rfl rfl (by kernel_rfl) rfl (.cons _ .slnil) rfl (a0i he rfl rfl rfl (m-t) oM oM) ?_;refine dT2 9 13 ?_ ?_
     ·refine a0k rfl (a1L m0 ((a0n _).append rest.uk) he rfl (m-t-1) oM (a0N hk2)) ?_;refine dH 13 0 ?_;refine a0k rfl (a1L m0 ((a0n _).append rest.uk) he rfl (m-t) oM (a0N hk1)) ?_;refine go 1 ?_;refine a0F 14 rfl rfl (by kernel_rfl) rfl (.cons _ .slnil) rfl (a0i he rfl rfl rfl (m-t) oM oM) ?_;refine dH 15 0 ?_;refine a1Q _ (m-t) (by first|exact (a0n _).append rest.uk|exact ((a0n _).append rest.uk).set rfl _) he rfl rfl rfl rfl rfl oM (by simp[a0v];omega) ?_;refine go 1 ?_;refine a0F 16 rfl rfl (by kernel_rfl) rfl (.cons _ .slnil) rfl (a0i he rfl rfl rfl (m-t-1) oM oM) ?_;refine dH 17 0 ?_;refine a1Q _ (m-t-1) (by first|exact (a0n _).append rest.uk|exact ((a0n _).append rest.uk).set rfl _) he rfl rfl rfl rfl rfl oM (by simp[a0v];omega) ?_;refine go 6 ?_;refine o_v rfl (OV.cast (u:=.int .i64 ((m-(t+1):Nat):Int)) (a1v rfl rfl ⟨oM,oM⟩) (congrArg (Value.int .i64) oM)) ?_;refine go 3 ?_;exact a0s (t+1) oM oM rfl sb (by rw[bud];first|rw[←a3R hk1 hk2] | rw[←a3p hk1 hk2 oM])
     ·refine a0k rfl (a1L m0 ((a0n _).append rest.uk) he rfl (m-t) oM (a0N hk1)) ?_;refine dH 9 0 ?_;refine a0k rfl (a1L m0 ((a0n _).append rest.uk) he rfl (m-t-1) oM (a0N hk2)) ?_;refine go 1 ?_;refine a0F 14 rfl rfl (by kernel_rfl) rfl (.cons _ .slnil) rfl (a0i he rfl rfl rfl (m-t) oM oM) ?_;refine dH 15 0 ?_;refine a1Q _ (m-t) (by first|exact (a0n _).append rest.uk|exact ((a0n _).append rest.uk).set rfl _) he rfl rfl rfl rfl rfl oM (by simp[a0v];omega) ?_;refine go 1 ?_;refine a0F 16 rfl rfl (by kernel_rfl) rfl (.cons _ .slnil) rfl (a0i he rfl rfl rfl (m-t-1) oM oM) ?_;refine dH 17 0 ?_;refine a1Q _ (m-t-1) (by first|exact (a0n _).append rest.uk|exact ((a0n _).append rest.uk).set rfl _) he rfl rfl rfl rfl rfl oM (by simp[a0v];omega) ?_;refine go 6 ?_;refine o_v rfl (OV.cast (u:=.int .i64 ((m-(t+1):Nat):Int)) (a1v rfl rfl ⟨oM,oM⟩) (congrArg (Value.int .i64) oM)) ?_;refine go 3 ?_;exact a0s (t+1) oM oM rfl sb (by rw[bud];first|rw[←a3R hk1 hk2] | rw[←a3p hk1 hk2 oM])
    ·refine go 8 ?_;exact q_x ⟨rfl,_,rfl,(show m-i=t from oM)▸b0Z m1 hi1 hjb oM hlo hhi⟩
  ·have hmb2:m+2≤b:=oM;refine go 7 ?_;refine o_v rfl (a2d he he rfl (m:=(a:Int)+(b:Int)) (wrap_u64 _ oM oM)) ?_;refine o_v rfl (a6J rfl (by decide)) ?_;refine o_v rfl (a2d he he rfl (m:=(((a+b) / 2:Nat):Int)) (by rw[IntKind.wrap_i64];omega)) ?_;refine go 7 ?_;refine o_v rfl (OV.cast (u:=.int .i64 ((((a+b) / 2)+m:Nat):Int)) (a2T rfl rfl ⟨oM,oM⟩) (congrArg (Value.int .i64) oM)) ?_;refine go 10 ?_;refine a9s (Ix:=(fun S R=>I)) (Lx:=(fun S R=>[(0,.slice (some ⟨g,0,none⟩) N cap),(1,.int .i64 ((a:Nat):Int)),(2,.int .i64 ((m:Nat):Int)),(3,.int .i64 ((b:Nat):Int)),(4,.func (.func f) #[] #[]),(18,.int .i64 ((((a+b) / 2):Nat):Int)),(19,.int .i64 ((((a+b) / 2)+m:Nat):Int)),(20,.int .i64 ((S:Nat):Int)),(21,.int .i64 ((R:Nat):Int))])) (Hx:=(fun S R=>[.blk g 282 (a1C (l)++rest.l).flatten])) (p:=(fun S R=>(((a+b) / 2)<m∧S=((a+b) / 2)+m-b∧R=((a+b) / 2))∨(m≤((a+b) / 2)∧S=a∧R=m))) ?_ ?_
   ·refine gC 7 (fun h140 p140=>?_) fun h140 p140=>?_
    ·refine go 4 ?_;refine o_v rfl (OV.cast (u:=.int .i64 ((((a+b) / 2)+m-b:Nat):Int)) (a1v rfl rfl ⟨oM,oM⟩) (congrArg (Value.int .i64) oM)) ?_;refine go 8 ?_;exact a3G (((a+b) / 2)+m-b) (((a+b) / 2)) (.inl ⟨oM,rfl,rfl⟩) sb rfl rfl
    ·refine go 11 ?_;exact a3G (a) (m) (.inr ⟨oM,rfl,rfl⟩) sb rfl rfl
   ·intro S R hS;refine go 3 ?_;refine o_v rfl (OV.cast (u:=.int .i64 ((((a+b) / 2)+m-1:Nat):Int)) (a1v rfl rfl ⟨oM,oM⟩) (congrArg (Value.int .i64) oM)) ?_;refine go 5 ?_
    refine a1i (S) (R) (fun s r=>I)
     (fun s r=>[(0,.slice (some ⟨g,0,none⟩) N cap),(1,.int .i64 ((a:Nat):Int)),(2,.int .i64 ((m:Nat):Int)),(3,.int .i64 ((b:Nat):Int)),(4,.func (.func f) #[] #[]),(18,.int .i64 ((((a+b) / 2):Nat):Int)),(19,.int .i64 ((((a+b) / 2)+m:Nat):Int)),(20,.int .i64 ((s:Nat):Int)),(21,.int .i64 ((r:Nat):Int)),(22,.int .i64 ((((a+b) / 2)+m-1:Nat):Int))])
     (fun s r=>[.blk g 282 (a1C (l)++rest.l).flatten])
     (fun s r=>S≤s∧s≤r∧r≤R∧(∀q,S≤q→q<s→a0u l q≤a0u l (((a+b) / 2)+m-1-q))∧(∀q,r≤q→q<R→a0u l (((a+b) / 2)+m-1-q)<a0u l q))
     (fun s r=>r-s) ⟨oM,oM,oM,fun q _ _=>oM,fun q _ _=>oM⟩ rfl sb rfl ?_
    intro s r ⟨hs1,hsr,hrR,hlo,hhi⟩;refine gC 8 (fun h151 p151=>?_) fun h151 p151=>?_
    ·have hh:(s+r) / 2<l.length:=oM;have hh2:((a+b) / 2)+m-1-(s+r) / 2<l.length:=oM;refine go 8 ?_;refine o_v rfl (a2d he he rfl (m:=(s:Int)+(r:Int)) (wrap_u64 _ oM oM)) ?_;refine o_v rfl (a6J rfl (by decide)) ?_;refine o_v rfl (a2d he he rfl (m:=(((s+r) / 2:Nat):Int)) (by rw[IntKind.wrap_i64];omega)) ?_;refine go 5 ?_;refine dG 0 4 ?_;refine a0F 4 rfl rfl (by kernel_rfl) rfl (.refl _) rfl (OV.cast (u:=.int .i64 ((((a+b) / 2)+m-1-(s+r) / 2:Nat):Int)) (a1v rfl rfl ⟨oM,oM⟩) (congrArg (Value.int .i64) oM)) ?_;refine a0F 5 rfl rfl (by kernel_rfl) rfl (.refl _) rfl (a0i he rfl rfl rfl (((a+b) / 2)+m-1-(s+r) / 2) oM oM) ?_;refine a0F 6 rfl rfl (by kernel_rfl) rfl (.refl _) rfl (a1L m0 ((a0n _).append rest.uk) he rfl (((a+b) / 2)+m-1-(s+r) / 2) oM (a0N hh2)) ?_;refine dG 7 2 ?_;refine a0F 9 rfl rfl (by kernel_rfl) rfl (.refl _) rfl (a0i he rfl rfl rfl ((s+r) / 2) oM oM) ?_;refine a0F 10 rfl rfl (by kernel_rfl) rfl (.refl _) rfl (a1L m0 ((a0n _).append rest.uk) he rfl ((s+r) / 2) oM (a0N hh)) ?_;refine dH 11 0 ?_;refine cV (hp _ _) ?_;refine dG 12 2 ?_;refine gC 2 (fun h171 p171=>?_) fun h171 p171=>?_
     ·refine go 7 ?_;exact a0t ((s+r) / 2+1) (r) ⟨oM,oM,oM,c7a m1 m2 ham hmb rfl hS (h:=(s+r) / 2) (r:=r) oM oM hrR (b4E p171),hhi⟩ oM rfl sb rfl
     ·refine go 6 ?_;exact a0t (s) ((s+r) / 2) ⟨oM,oM,oM,hlo,c6Z m1 m2 ham hmb rfl hS (h:=(s+r) / 2) (s:=s) hs1 oM oM (b4F p171)⟩ oM rfl sb rfl
    ·obtain rfl:s=r:=oM;obtain⟨hx,hy⟩:=c2y m1 m2 ham hmb rfl hS hs1 hrR hlo hhi;have g0:a≤s:=oM;have g1:s≤m:=oM;have g2:m≤((a+b) / 2+m-s):=oM;have g3:((a+b) / 2+m-s)≤b:=oM;have hc:s+(((a+b) / 2+m-s)-m)=((a+b) / 2):=oM;refine go 9 ?_;refine o_v rfl (OV.cast (u:=.int .i64 ((((a+b) / 2+m-s):Nat):Int)) (a1v rfl rfl ⟨oM,oM⟩) (congrArg (Value.int .i64) oM)) ?_;refine go 4 ?_;refine a3O (α:=List Pkd) (Ix:=(fun k=>I)) (Lx:=(fun k=>[(0,.slice (some ⟨g,0,none⟩) N cap),(1,.int .i64 ((a:Nat):Int)),(2,.int .i64 ((m:Nat):Int)),(3,.int .i64 ((b:Nat):Int)),(4,.func (.func f) #[] #[]),(18,.int .i64 ((((a+b) / 2):Nat):Int)),(20,.int .i64 ((s:Nat):Int)),(24,.int .i64 ((((a+b) / 2+m-s):Nat):Int))])) (Hx:=(fun k=>[.blk g 282 (a1C (k)++rest.l).flatten])) (p:=(fun k=>Rot l k a s m ((a+b) / 2+m-s) b)) ?_ ?_
     ·refine gS 6 181 (fun h181 p181=>?_) fun h181 p181=>?_
      ·refine gC 6 (fun h185 p185=>?_) fun h185 p185=>?_
       ·refine go 7 ?_;refine a1m (c9s _ l N hN g s m ((a+b) / 2+m-s) f oM oM oM oM) rfl rfl fun v191 s191 q191=>?_;obtain⟨rfl,k,rfl,hkl,hk⟩:=q191;refine go 2 ?_;exact a1s k (Rot.of g1 g2 oM hkl hk hx) sb rfl rfl
       ·refine go 2 ?_;exact a1s l (Rot.id oM g1 g2) sb rfl rfl
      ·refine go 9 ?_;exact a1s l (Rot.id oM g1 g2) sb rfl rfl
     ·intro k hk;refine go 1 ?_;refine a3O (α:=List Pkd) (Ix:=(fun k1=>I)) (Lx:=(fun k1=>[(0,.slice (some ⟨g,0,none⟩) N cap),(1,.int .i64 ((a:Nat):Int)),(2,.int .i64 ((m:Nat):Int)),(3,.int .i64 ((b:Nat):Int)),(4,.func (.func f) #[] #[]),(18,.int .i64 ((((a+b) / 2):Nat):Int)),(20,.int .i64 ((s:Nat):Int)),(24,.int .i64 ((((a+b) / 2+m-s):Nat):Int))])) (Hx:=(fun k1=>[.blk g 282 (a1C (k1)++rest.l).flatten])) (p:=(fun k1=>Seg k k1 a ((a+b) / 2))) ?_ ?_
      ·refine gS 6 195 (fun h195 p195=>?_) fun h195 p195=>?_
       ·refine gC 6 (fun h199 p199=>?_) fun h199 p199=>?_
        ·refine go 7 ?_;refine a1m (ih k a s ((a+b) / 2) (hk.len.trans hN) oM oM oM (by have:=hk.len;omega) (hk.p1 m1 g1) ((hk.p2 m2 g1 g2 g3).sub (Nat.le_refl _) oM)) rfl rfl fun v205 s205 q205=>?_;obtain⟨rfl,k1,rfl,hk1⟩:=q205;refine go 2 ?_;exact a1s k1 hk1 sb rfl rfl
        ·refine go 2 ?_;exact a1s k (Seg.refl' (hk.left m1 m2 g1 g2 g3 hc oM g0)) sb rfl rfl
       ·refine go 9 ?_;exact a1s k (Seg.refl' (hk.left m1 m2 g1 g2 g3 hc oM g0)) sb rfl rfl
      ·intro k1 hk1;have hl1:k1.length=N:=hk1.len.trans (hk.len.trans hN);refine gS 6 209 (fun h209 p209=>?_) fun h209 p209=>?_
       ·refine gC 6 (fun h213 p213=>?_) fun h213 p213=>?_
        ·refine go 7 ?_;refine a1m (ih k1 ((a+b) / 2) ((a+b) / 2+m-s) b hl1 oM oM oM oM (hk1.keepD (Nat.le_refl _) ((hk.p3 m1 g0 g1 g2).sub oM (Nat.le_refl _))) (hk1.keepD oM (hk.p4 m2 g1 g2))) rfl rfl fun v219 s219 q219=>?_;obtain⟨rfl,k2,rfl,hk2⟩:=q219;refine go 2 ?_;exact q_x ⟨rfl,k2,rfl,hk.done m1 m2 g0 g1 g2 g3 hb hc hx hy hk1 hk2⟩
        ·refine go 2 ?_;exact q_x ⟨rfl,k1,rfl,hk.done m1 m2 g0 g1 g2 g3 hb hc hx hy hk1 (Seg.refl' (hk1.keepD (Nat.le_refl _) (hk.right m1 m2 g0 g1 g2 hc oM g3)))⟩
       ·refine go 9 ?_;exact q_x ⟨rfl,k1,rfl,hk.done m1 m2 g0 g1 g2 g3 hb hc hx hy hk1 (Seg.refl' (hk1.keepD (Nat.le_refl _) (hk.right m1 m2 g0 g1 g2 hc oM g3)))⟩
theorem b4e (I:IMap) {rest:Rst 15} {cap:Nat} (N g:Nat) (f:FuncId) (hp:∀x y:Pkd,FnV prog f #[.agg (Day.ch x).toArray,.agg (Day.ch y).toArray] I (.int .i64 ((Day.day x-Day.day y)))) (hN0:N≤1000000) (W:Nat):∀(l:List Pkd) (a m b:Nat),l.length=N→b-a≤W→a<m→m<b→b≤l.length→SrtD l a m→SrtD l m b→FnX prog 261 #[.slice (some ⟨g,0,none⟩) N cap,.int .i64 ((a:Nat):Int),.int .i64 ((m:Nat):Int),.int .i64 ((b:Nat):Int),.func (.func f) #[] #[]] I [.blk g 282 (a1C (l)++rest.l).flatten] (fun u r=>u = .tuple #[]∧∃m,r = .blk g 282 (a1C (m)++rest.l).flatten∧Seg l m a b):=by
 induction W using Nat.strongRecOn with
 |_ W ih=>exact fun l a m b hN hW ham hmb hb m1 m2=>b9i I N g f hp hN0 W (fun l' a' m' b' h1 h2 h3 h4 h5 h6 h7=>ih (b'-a') h2 l' a' m' b' h1 (Nat.le_refl _) h3 h4 h5 h6 h7) l a m b hN hW ham hmb hb m1 m2
theorem c9I (I:IMap) {rest:Rst 15} {cap:Nat} (N g:Nat) (f:FuncId) (hp:∀x y:Pkd,FnV prog f #[.agg (Day.ch x).toArray,.agg (Day.ch y).toArray] I (.int .i64 ((Day.day x-Day.day y)))) (hN0:N≤1000000) (l:List Pkd) (hN:l.length=N) :
    FnX prog 252 #[.slice (some ⟨g,0,none⟩) N cap,.int .i64 ((N:Nat):Int),.func (.func f) #[] #[]] I [.blk g 282 (a1C (l)++rest.l).flatten] (fun u r=>u = .tuple #[]∧∃m,r = .blk g 282 (a1C (m)++rest.l).flatten∧Stb l m∧SrtD m 0 N):=by
 refine enter func252 call252 rfl ntmps252 rfl fun w0=>?_;refine go 14 ?_
 refine a1i (0) (l) (fun a m=>I)
  (fun a m=>[(0,.slice (some ⟨g,0,none⟩) N cap),(1,.int .i64 ((N:Nat):Int)),(2,.func (.func f) #[] #[]),(6,.int .i64 20),(7,.int .i64 ((a:Nat):Int)),(8,.int .i64 ((a+20:Nat):Int))])
  (fun a m=>[.blk g 282 (a1C (m)++rest.l).flatten])
  (fun a m=>a≤N∧Stb l m∧Pre m 20 a)
  (fun a m=>N-a) ⟨Nat.zero_le _,Stb.refl l,.zero⟩ rfl sb rfl ?_
 intro a m ⟨ha,hs,hP⟩;have hmN:m.length=N:=hs.1.symm.trans hN;refine gC 8 (fun h13 p13=>?_) fun h13 p13=>?_
 ·refine go 10 ?_;refine a1m (b6r _ m N hmN g a (a+20) f hp oM oM oM) rfl rfl fun v18 s18 q18=>?_;obtain⟨rfl,k18,rfl,h18⟩:=q18;refine go 11 ?_;refine o_v rfl (OV.cast (u:=.int .i64 ((a+20+20:Nat):Int)) (a2T rfl rfl ⟨oM,oM⟩) (congrArg (Value.int .i64) oM)) ?_;refine go 4 ?_;exact a0t (a+20) (k18) ⟨oM,hs.trans h18.stb,hP.put h18⟩ oM rfl sb rfl
 ·refine go 12 ?_;refine a1m (b6r _ m N hmN g a N f hp ha oM oM) rfl rfl fun v27 s27 q27=>?_;obtain⟨rfl,m3,rfl,h27⟩:=q27;refine go 3 ?_
  refine a1i (20) (m3) (fun q m=>I)
   (fun q m=>[(0,.slice (some ⟨g,0,none⟩) N cap),(1,.int .i64 ((N:Nat):Int)),(2,.func (.func f) #[] #[]),(6,.int .i64 ((q:Nat):Int))])
   (fun q m=>[.blk g 282 (a1C (m)++rest.l).flatten])
   (fun q m=>1≤q∧Stb l m∧Blk m q N 0)
   (fun q m=>N-q) ⟨oM,hs.trans h27.stb,hP.last h27 ha oM⟩ rfl sb rfl ?_
  intro q m ⟨hq,hs,hB⟩;have hmN:m.length=N:=hs.1.symm.trans hN;refine gC 8 (fun h30 p30=>?_) fun h30 p30=>?_
  ·refine go 6 ?_;refine o_v rfl (OV.cast (u:=.int .i64 ((2 * q:Nat):Int)) (b2E rfl rfl ⟨oM,oM⟩) (congrArg (Value.int .i64) oM)) ?_;refine go 6 ?_
   refine a1i (0) (m) (fun a k=>I)
    (fun a k=>[(0,.slice (some ⟨g,0,none⟩) N cap),(1,.int .i64 ((N:Nat):Int)),(2,.func (.func f) #[] #[]),(6,.int .i64 ((q:Nat):Int)),(7,.int .i64 ((a:Nat):Int)),(8,.int .i64 ((a+2 * q:Nat):Int))])
    (fun a k=>[.blk g 282 (a1C (k)++rest.l).flatten])
    (fun a k=>a≤N∧Stb l k∧Pre k (2 * q) a∧Blk k q N a)
    (fun a k=>N-a) ⟨Nat.zero_le _,hs,.zero,hB⟩ rfl ⟨rfl,rfl,rfl,rfl,rfl,congrArg (fun z:Int=>some (Value.int .i64 z)) oM,trivial⟩ rfl ?_
   intro a k ⟨ha,hkS,hkP,hkB⟩;have hkN:k.length=N:=hkS.1.symm.trans hN;refine gC 8 (fun h35 p35=>?_) fun h35 p35=>?_
   ·obtain⟨t1,t2,t3⟩:=hkB.two oM hq;refine go 9 ?_;refine o_v rfl (OV.cast (u:=.int .i64 ((a+q:Nat):Int)) (a2T rfl rfl ⟨oM,oM⟩) (congrArg (Value.int .i64) oM)) ?_;refine go 3 ?_;refine a1m (b4e _ N g f hp hN0 _ k a (a+q) (a+2 * q) hkN (Nat.le_refl _) oM oM oM t1 t2) rfl rfl fun v43 s43 q43=>?_;obtain⟨rfl,k43,rfl,h43⟩:=q43;refine go 11 ?_;refine o_v rfl (OV.cast (u:=.int .i64 ((2 * q:Nat):Int)) (b2E rfl rfl ⟨oM,oM⟩) (congrArg (Value.int .i64) oM)) ?_;refine o_v rfl (OV.cast (u:=.int .i64 ((a+2 * q+2 * q:Nat):Int)) (a2T rfl rfl ⟨oM,oM⟩) (congrArg (Value.int .i64) oM)) ?_;refine go 4 ?_;exact a0t (a+2 * q) (k43) ⟨oM,hkS.trans h43.stb,hkP.put h43,t3.same fun z z1 z2=>h43.out z (.inr oM)⟩ oM rfl sb rfl
   ·refine go 6 ?_;refine a3O (α:=List Pkd) (Ix:=(fun k=>I)) (Lx:=(fun k=>[(0,.slice (some ⟨g,0,none⟩) N cap),(1,.int .i64 ((N:Nat):Int)),(2,.func (.func f) #[] #[]),(6,.int .i64 ((q:Nat):Int))])) (Hx:=(fun k=>[.blk g 282 (a1C (k)++rest.l).flatten])) (p:=(fun k=>Stb l k∧Blk k (2 * q) N 0)) ?_ ?_
    ·refine go 4 ?_;refine o_v rfl (OV.cast (u:=.int .i64 ((a+q:Nat):Int)) (a2T rfl rfl ⟨oM,oM⟩) (congrArg (Value.int .i64) oM)) ?_;refine gC 10 (fun h54 p54=>?_) fun h54 p54=>?_
     ·obtain⟨t1,t2⟩:=hkB.one oM;refine go 7 ?_;refine a1m (b4e _ N g f hp hN0 _ k a (a+q) N hkN (Nat.le_refl _) oM oM oM t1 (t2 oM)) rfl rfl fun v60 s60 q60=>?_;obtain⟨rfl,k60,rfl,h60⟩:=q60;refine go 2 ?_;exact a1s k60 ⟨hkS.trans h60.stb,hkP.last h60 ha oM⟩ sb rfl rfl
     ·refine go 2 ?_;exact a1s k ⟨hkS,hkP.last (Seg.refl' (hkB.all oM)) ha oM⟩ sb rfl rfl
    ·intro k ⟨hkS,hkB⟩;refine go 2 ?_;refine o_v rfl (OV.cast (u:=.int .i64 ((2 * q:Nat):Int)) (b2E rfl rfl ⟨oM,oM⟩) (congrArg (Value.int .i64) oM)) ?_;refine go 4 ?_;exact a0t (2 * q) (k) ⟨oM,hkS,hkB⟩ oM rfl sb rfl
  ·refine go 5 ?_;exact q_x ⟨rfl,m,rfl,hs,hB.all oM⟩
theorem b5K (I:IMap) {rest:Rst 15} {cap:Nat} (N g:Nat) (f:FuncId) (hp:∀x y:Pkd,FnV prog f #[.agg (Day.ch x).toArray,.agg (Day.ch y).toArray] I (.int .i64 ((Day.day x-Day.day y)))) (hN0:N≤1000000) (l:List Pkd) (hN:l.length=N) :
    FnX prog 230 #[.slice (some ⟨g,0,none⟩) N cap,.func (.func f) #[] #[]] I [.blk g 282 (a1C (l)++rest.l).flatten] (fun u r=>u = .tuple #[]∧∃m,r = .blk g 282 (a1C (m)++rest.l).flatten∧Stb l m∧SrtD m 0 N):=by
 refine enter func230 call230 rfl ntmps230 rfl fun w0=>?_;refine go 6 ?_;refine a1m (c9I _ N g f hp hN0 l hN) rfl rfl fun v8 s8 q8=>?_;obtain⟨rfl,m8,rfl,h8⟩:=q8;refine go 2 ?_;exact q_x ⟨rfl,m8,rfl,h8⟩
theorem b8s (I:IMap) (f:FuncId) :
    FnV prog 260 #[.slice none 0 0,.int .i64 0,.int .i64 0,.func (.func f) #[] #[]] I (.tuple #[]):=by
 refine enter func260 call260 rfl ntmps260 rfl fun w0=>?_;refine go 3 ?_;refine o_v rfl (OV.cast (u:=.int .i64 1) (a2T rfl rfl ⟨oM,oM⟩) rfl) ?_;refine go 4 ?_
 refine a0w (α:=Nat) 0 (fun i=>I)
  (fun i=>[(0,.slice none 0 0),(1,.int .i64 0),(2,.int .i64 0),(3,.func (.func f) #[] #[]),(8,.int .i64 1)])
  (fun i=>[])
  (fun i=>True)
  (fun i=>0) trivial rfl sb rfl ?_
 intro i _;refine gC 8 (fun h14 p14=>?_) fun h14 p14=>?_
 ·exact absurd p14 (by decide)
 ·refine go 5 ?_;exact q_v rfl
theorem c2z (I:IMap) (f:FuncId) :
    FnV prog 252 #[.slice none 0 0,.int .i64 0,.func (.func f) #[] #[]] I (.tuple #[]):=by
 refine enter func252 call252 rfl ntmps252 rfl fun w0=>?_;refine go 14 ?_
 refine a0w (α:=Nat) 0 (fun i=>I)
  (fun i=>[(0,.slice none 0 0),(1,.int .i64 0),(2,.func (.func f) #[] #[]),(6,.int .i64 20),(7,.int .i64 0),(8,.int .i64 20)])
  (fun i=>[])
  (fun i=>True)
  (fun i=>0) trivial rfl sb rfl ?_
 intro i _;refine gC 8 (fun h13 p13=>?_) fun h13 p13=>?_
 ·exact absurd p13 (by decide)
 ·refine go 12 ?_;refine cV (b8s _ f) ?_;refine go 3 ?_
  refine a0w (α:=Nat) 0 (fun i=>I)
   (fun i=>[(0,.slice none 0 0),(1,.int .i64 0),(2,.func (.func f) #[] #[]),(6,.int .i64 20)])
   (fun i=>[])
   (fun i=>True)
   (fun i=>0) trivial rfl sb rfl ?_
  intro i _;refine gC 8 (fun h30 p30=>?_) fun h30 p30=>?_
  ·exact absurd p30 (by decide)
  ·refine go 5 ?_;exact q_v rfl
theorem c9B (I:IMap) (f:FuncId) :
    FnV prog 230 #[.slice none 0 0,.func (.func f) #[] #[]] I (.tuple #[]):=by
 refine enter func230 call230 rfl ntmps230 rfl fun w0=>?_;refine go 6 ?_;refine cV (c2z _ f) ?_;refine go 2 ?_;exact q_v rfl
theorem d2F (I:IMap) (v:Value) (l:List Pkd) (hN0:l.length≤1000000) (f:FuncId) (hp:∀x y:Pkd,FnV prog f #[.agg (Day.ch x).toArray,.agg (Day.ch y).toArray] I (.int .i64 (Day.day x-Day.day y))) :
  FnX prog 230 #[v,.func (.func f) #[] #[]] I [.row v 282 15 l.length (a1C l).flatten] (fun u r=>u = .tuple #[]∧r = .row v 282 15 l.length (a1C (a0Q l)).flatten):=
 FnX.of_rowV (args:=fun v=>[v,.func (.func f) #[] #[]]) (a0n l) (a0v l)
  (fun h0 hv=>by
   obtain rfl:=List.eq_nil_of_length_eq_zero h0;subst hv
   exact FnX.of_V (c9B I f))
  (fun g cap rest hv hR hc hl=>by
   subst hv;refine FnX.back (yss:=a1C (a0Q l)) (a0n _) hR (by rw[a0v,a3X]) hc hl ?_;refine FnH.mono (b5K I (rest:=⟨rest,hR⟩) (cap:=cap) l.length g f hp hN0 l rfl) fun u I' H' hI h=>?_
   obtain⟨h1,r',h2,h3,m,h4,h5,h6⟩:=h;have hml:m.length=l.length:=h5.1.symm;obtain rfl:=b7A h5 (SrtD.pw (by rw[hml];exact h6))
   exact⟨h1,r',h2,⟨h3,rfl⟩,h4⟩)
theorem c8T (I:IMap) (x y:Pkd) :
    FnV prog 231 #[.agg (Day.ch x).toArray,.agg (Day.ch y).toArray] I (.int .i64 (Day.day x-Day.day y)):=by
 refine enter func231 call231 rfl ntmps231 rfl fun w0=>?_
 show SX _ _ _ (b1E [.agg x.cells.toArray,.agg y.cells.toArray] 0) _ _
 refine go 4 fun g2=>?_
 refine go 2 fun g3=>?_
 refine go 11 ?_;refine o_v rfl (a1v rfl rfl ⟨by have:=x.lo;have:=x.hi;have:=y.lo;have:=y.hi;omega,by have:=x.lo;have:=x.hi;have:=y.lo;have:=y.hi;omega⟩) ?_;refine go 5 ?_;exact q_v rfl
theorem b8o (I:IMap) (vc:Value) (c:List Kind) (hvc:RdS I vc c) (hsc:SmC c) (g1:Nat) (c1:ICells I g1 0 [vc]) (g2:Nat) (v:Value) (st:List Part) (hv:RdS I v st) (hsf:SmF st) (e:Evt) (hse:SmE e) :
    FnG prog 232 #[.agg e.cells.toArray,.pointer (some ⟨g1,0,none⟩),.pointer (some ⟨g2,0,none⟩)] I (.blk g2 97 [v]) (fun u J r=>u = .int .i64 (a0f c st e).2∧∃w,r = .blk g2 97 [w]∧RdS J w (a0f c st e).1):=by
 refine enter func232 call232 rfl ntmps232 rfl fun w0=>?_;refine go 4 fun g3=>?_
 refine go 9 ?_;refine a0D (c0z _ vc c hvc hsc v st hv hsf e hse) rfl rfl fun v9 I9 j9 q9=>?_;obtain⟨w9,rfl,hw9⟩:=q9;refine go 4 ?_;refine a0b ?_;refine a1A _ he rfl rfl rfl rfl rfl (by simp[hw9.one]) ?_;refine go 11 ?_;refine a0b ?_;refine a0a ?_;exact q_g ⟨rfl,w9,rfl,hw9⟩
theorem b6l (I:IMap) (vc:Value) (c:List Kind) (hvc:RdS I vc c) (hsc:SmC c) (v:Value) (l:List Rep) (hv:RdS I v l) (hl:l.length≤1000000) (hsl:∀r∈l,∀e∈r.options,SmE e) (hgd:∀r∈l,a0l r=true) (w:Value) (ch:List Int) (hw:RdS I w ch) (hlc:ch.length=l.length) (day:Int) :
    FnI prog 189 #[.agg #[vc],v,w,.int .i64 day] I (fun u J=>u = .tuple #[.int .i64 (a4s c l ch day).1,.int .i64 (a4s c l ch day).2]):=by
 obtain⟨A,c0,rfl,hA,hc,hm⟩:=hv;obtain⟨B,c1,rfl,hB,hc1,hm1⟩:=hw;refine enter func189 call189 rfl ntmps189 rfl fun w0=>?_;refine go 4 fun g4=>?_
 refine go 6 ?_;refine a0G 282 15 ?_;refine go 12 ?_
 refine a2C ((0:Nat)) (_) ([]) ([]) (fun i v xs out=>I)
  (fun i v xs out=>[(4,.pointer (some ⟨g4,0,none⟩)),(2,.slice B ch.length c1),(3,.int .i64 day),(10,v),(19,.slice A l.length c0),(20,.int .i64 ((l.length:Nat):Int)),(21,.int .i64 ((i:Nat):Int))])
  (fun i v xs out=>[.row v 282 15 out.length xs,.blk g4 24 [vc]])
  (fun i v xs out=>i≤l.length∧a2R day l ch i=out∧Flat I xs out)
  (fun i v xs out=>l.length-i) ⟨Nat.zero_le _,rfl,.nil⟩ rfl sb rfl ?_
 intro i v xs out ⟨hi,hw,hF⟩;have hol:out.length≤i:=by rw[←hw];exact c4X _ _ _ _
 refine gC 6 (fun h22 p22=>?_) fun h22 p22=>?_
 ·have hlt:i<l.length:=oM;have hlt2:i<ch.length:=oM;refine go 7 ?_;obtain⟨b24,o24,w24,e24,c24,r24⟩:=RdA.at_ hA (i:=i) hlt;obtain⟨q24,rfl,S24,d24,rfl,hS24,hd24,hm24⟩:=r24;refine go 4 fun g12=>?_
  refine go 9 ?_;obtain⟨b28,o28,w28,e28,c28,r28⟩:=RdA.at_ hB (i:=i) hlt2;obtain rfl:=r28;refine o_v rfl (a0i he rfl rfl e28 (i) oM hlt2) ?_;refine gS 9 32 (fun h32 p32=>?_) fun h32 p32=>?_
  ·refine gS 7 39 (fun h39 p39=>?_) fun h39 p39=>?_
   ·have hk:ch[i].toNat<l[i].options.length:=oM;have hday:=a8g (a3r (hgd _ (List.getElem_mem hlt)) _ (List.getElem_mem hk));refine go 3 ?_;obtain⟨b43,o43,w43,e43,c43,r43⟩:=RdA.at_ hS24 (i:=ch[i].toNat) hk;obtain rfl:=r43;refine a0P (a0z rfl rfl h39 (a0k rfl (a0i he rfl rfl e43 (ch[i].toNat) oM hk) ?_));refine gC 7 (fun h48 p48=>?_) fun h48 p48=>?_
    ·refine go 5 ?_;obtain⟨b53,o53,w53,e53,c53,r53⟩:=RdA.at_ hS24 (i:=ch[i].toNat) hk;obtain rfl:=r53;refine o_v rfl (a0i he rfl rfl e53 (ch[i].toNat) oM hk) ?_;refine go 5 fun v57=>?_
     refine go 1 ?_;refine a0c ?_;refine a0o he he rfl rfl rfl rfl rfl oM oM rfl fun v58=>?_;refine go 9 ?_;refine a0b ?_;refine a0a ?_;refine a0b ?_;refine a0a ?_;exact a1k (i+1) (_) (_) (out++[⟨l[i].options[ch[i].toNat],i,hday.1,hday.2⟩]) ⟨oM,d1S hlt hlt2 hw p32 hk p48 hday,hF.append (.one rfl)⟩ oM rfl sb (by first|rfl|(simp only[List.length_append,List.length_singleton];rfl)|simp only[List.length_append,List.length_singleton])
    ·refine go 8 ?_;refine a0a ?_;exact a1k (i+1) (_) (_) (out) ⟨oM,c8U hlt hlt2 hw hk p48,hF⟩ oM rfl sb (by first|rfl|(simp only[List.length_append,List.length_singleton];rfl)|simp only[List.length_append,List.length_singleton])
   ·refine go 20 ?_;refine a0a ?_;exact a1k (i+1) (_) (_) (out) ⟨oM,d1Q hlt hlt2 hw p39,hF⟩ oM rfl sb (by first|rfl|(simp only[List.length_append,List.length_singleton];rfl)|simp only[List.length_append,List.length_singleton])
  ·refine go 27 ?_;refine a0a ?_;exact a1k (i+1) (_) (_) (out) ⟨oM,d1R hlt hlt2 hw p32,hF⟩ oM rfl sb (by first|rfl|(simp only[List.length_append,List.length_singleton];rfl)|simp only[List.length_append,List.length_singleton])
 ·have e:i=l.length:=oM;subst e;refine go 9 ?_;obtain⟨xss,rfl,hx⟩:=FlatC.of hF;obtain rfl:=c3Y hx;refine a1m (d2F _ v out oM 231 (fun x y=>c8T _ x y)) rfl rfl fun v61 s61 q61=>?_;obtain⟨rfl,rfl⟩:=q61;have hso:=a3X out;refine a0d (l:=a0Q out) rfl (by rw[a3X]) ((b8d _).flat) fun I61 j61 R61=>?_;have hvc:=hvc.le j61;refine go 6 fun g14=>?_
  refine go 4 ?_;obtain⟨A6,c6,rfl,hA6,_,_⟩:=R61;refine a0b ?_;refine a1Z fun Ig4 jg4 cg4=>?_;have hvc:=hvc.le jg4;have hA6:=hA6.le jg4;refine go 13 ?_
  refine a2C (0) ([]) (.slice none 0 0) (Ig4) (fun i st v14 J=>J)
   (fun i st v14 J=>[(15,.func (.func 232) #[] #[.pointer (some ⟨g4,0,none⟩),.pointer (some ⟨g14,0,none⟩)]),(63,.slice A6 (a0Q out).length c6),(64,.int .i64 (((a0Q out).length:Nat):Int)),(65,.int .i64 ((i:Nat):Int))])
   (fun i st v14 J=>[.blk g14 97 [v14]])
   (fun i st v14 J=>i≤(a0Q out).length∧ILe Ig4 J∧RdS J v14 st∧SmF st∧a3b c [] (a0Q out)=a3b c st ((a0Q out).drop i))
   (fun i st v14 J=>(a0Q out).length-i) ⟨Nat.zero_le _,ILe.refl _,RdS.nil',SmF.nil,rfl⟩ rfl sb rfl ?_
  intro i st v14 J ⟨hi,hJ,hv14,hsf,hgo⟩;have hvc:=hvc.le hJ;have hA6:=hA6.le hJ;have cg4:=cg4.le hJ;refine gC 6 (fun h66 p66=>?_) fun h66 p66=>?_
  ·have hlt:i<(a0Q out).length:=oM
   have hse:SmE (a0Q out)[i].e:=by
     obtain⟨r,hr,he⟩:=c4Y (day:=day) (l:=l) (ch:=ch) (n:=l.length) (p:=(a0Q out)[i]) (by rw[hw];exact a4B.1 (List.getElem_mem hlt));exact hsl r hr _ he
   refine go 6 ?_;obtain⟨b67,o67,w67,e67,c67,r67⟩:=RdA.at_ hA6 (i:=i) hlt;obtain rfl:=r67;refine go 4 fun g17=>?_
   refine go 8 ?_;refine o_v rfl (a0J ((a0Q out)[i].e.cells) m0 he rfl rfl rfl) ?_;refine go 1 ?_;refine a0b ?_;refine a7Z (b8o _ vc c hvc hsc g4 cg4 g14 v14 st hv14 hsf (a0Q out)[i].e hse) rfl rfl fun v72 I72 s72 j72 q72=>?_;obtain⟨rfl,w72,rfl,hw72⟩:=q72;refine gC 9 (fun h74 p74=>?_) fun h74 p74=>?_
   ·have hok:¬(a0f c st (a0Q out)[i].e).2=0:=by simpa using p74
    refine go 16 ?_;exact q_i (by simp only[a4s,hw,hgo,a9D hlt,if_neg hok])
   ·have hok:(a0f c st (a0Q out)[i].e).2=0:=by simpa using p74
    refine go 8 ?_;refine a0b ?_;refine a0a ?_;exact a1k (i+1) (_) (_) (I72) ⟨oM,hJ.trans j72,hw72,a5b hsf hse,by rw[hgo,a9D hlt,if_pos hok]⟩ oM rfl sb rfl
  ·refine go 13 ?_;exact q_i (by simp only[a4s,hw,hgo,List.drop_eq_nil_of_le (show (a0Q out).length≤i from oM)];rfl)
theorem c8o (I:IMap) (vc:Value) (c:List Kind) (hvc:RdS I vc c) (hsc:SmC c) (v:Value) (l:List Rep) (hv:RdS I v l) (hl:l.length≤1000000) (hsl:∀r∈l,∀e∈r.options,SmE e) (w:Value) (ch:List Int) (hw:RdS I w ch) :
    FnI prog 190 #[.agg #[vc],v,w] I (fun u J=>u = .tuple #[.int .i64 (a8o c l ch).1,.int .i64 (a8o c l ch).2]):=by
 refine enter func190 call190 rfl ntmps190 rfl fun w0=>?_;refine go 4 fun g3=>?_
 refine go 11 ?_;refine cV (c0U _ vc c hvc hsc _ l hv hsl _ ch hw 0) ?_;refine gC 3 (fun h12 p12=>?_) fun h12 p12=>?_
 ·refine go 9 ?_;exact q_i (by rw[a8o,if_pos (by simpa using h12)])
 ·obtain⟨hlc,hgd⟩:=a2E (c:=c) (l:=l) (ch:=ch) (n:=0) (by simpa using h12);refine go 8 ?_;refine a0D (b6l _ vc c hvc hsc _ l hv hl hsl hgd _ ch hw hlc 40001) rfl rfl fun v16 I16 j16 q16=>?_;obtain rfl:=q16;refine go 8 ?_;exact q_i (by rw[a8o,if_neg (by simp[show a1G c l ch 0=true by simpa using h12])];rfl)
theorem d4C (I:IMap) (vc:Value) (c:List Kind) (hvc:RdS I vc c) (hsc:SmC c) (v:Value) (l:List Rep) (hv:RdS I v l) (hl:l.length≤1000000) (hsl:∀r∈l,∀e∈r.options,SmE e) (w:Value) (ch:List Int) (hw:RdS I w ch) :
    FnI prog 142 #[.agg #[vc],v,w] I (fun u J=>u = .bool (isF c l ch)):=by
 refine enter func142 call142 rfl ntmps142 rfl fun w0=>?_;refine go 4 fun g3=>?_
 refine go 9 ?_;refine a0D (c8o _ vc c hvc hsc _ l hv hl hsl _ ch hw) rfl rfl fun v13 I13 j13 q13=>?_;obtain rfl:=q13;refine go 16 ?_;exact q_i rfl
theorem c8p (I:IMap) (vc:Value) (c:List Kind) (hvc:RdS I vc c) (hsc:SmC c) (v:Value) (l:List Rep) (hv:RdS I v l) (hl:l.length≤1000000) (hsl:∀r∈l,∀e∈r.options,SmE e) (w:Value) (ch:List Int) (hw:RdS I w ch) :
    FnI prog 141 #[.agg #[vc],v,w] I (fun u J=>u = .bool (a7m c l ch)):=by
 have hv0:=hv;have hw0:=hw;obtain⟨A,c0,rfl,_,_,_⟩:=hv0;obtain⟨B,c1,rfl,_,_,_⟩:=hw0;refine enter func141 call141 rfl ntmps141 rfl fun w0=>?_;refine go 4 fun g3=>?_
 refine go 10 ?_;refine cV (c0U _ vc c hvc hsc _ l hv hsl _ ch hw (-1)) ?_;refine gC 3 (fun h15 p15=>?_) fun h15 p15=>?_
 ·refine go 8 ?_;exact q_i (by rw[a7m,if_pos (by simpa using h15)])
 ·obtain⟨hlc,hgd⟩:=a2E (c:=c) (l:=l) (ch:=ch) (n:=(-1)) (by simpa using h15);refine go 6 fun g7=>?_
  refine go 10 ?_;refine a0D (d1s _ A B _ c0 _ c1) rfl rfl fun v18 I18 j18 q18=>?_;have hvc:=hvc.le j18;have hv:=hv.le j18;have hw:=hw.le j18;obtain⟨g2,g5,rfl,c2,c3⟩:=q18;refine go 3 ?_;refine b1K (σ:=Int) (ps:=[19]) 40001 (fun m=>[.blk g7 3 [ci m]]) (fun pre I m=>m=a5c pre) (fun pre I m cd=>False) rfl call229 (d1f _ _ l hv _ ch hw hlc g2 g5 c2 c3) (fun I vs x h=>by rw[h];rfl) rfl (fun pre I I' s hI h=>h) (fun _ _ _ _ _ _ h=>h) (rfl) rfl ?_ ?_ ?_
  ·rintro r E1 pre x vs I1 m hI1 rfl rfl hpf;refine c9P ?_;refine go 3 ?_;refine b2t ?_;refine go 4 ?_;refine o_v rfl (a3x rfl rfl) ?_;refine go 1 ?_;refine a0c ?_;refine go 3 ?_;refine a0c ?_;refine a0c ?_;exact b1j (_) (hI1) ((by rw[b8x])) rfl
  ·rintro D pre I1 m hI1 hfull rfl;refine c9O ?_;refine go 9 ?_;refine a0D (b6l _ vc c (hvc.le hI1) hsc _ l (hv.le hI1) hl hsl hgd _ ch (hw.le hI1) hlc (a5c pre)) rfl rfl fun v28 I28 j28 q28=>?_;obtain rfl:=q28;refine go 15 ?_;refine a7E ?_;refine go 1 ?_;exact q_i (by rw[a7m,if_neg (by simp[show a1G c l ch (-1)=true by simpa using h15]),hfull])
  ·rintro D pre I1 m cd hI1 hpart h;exact h.elim
end Go.Proofs.YtkndpfncklhhlaaGreat
set_option linter.all false
namespace Go.Sx
open Go
section
variable {P:Program} {n:Sz} {E:Ent} {I:IMap} {L:LL} {H:List Res}
variable {d ty:Nat} {pos:String} {af:Array Edge} {tx tyy:Nat} {x y:Operand}
end
def b5j (ch:List Int) (a:Nat):List Int:=ch.mapIdx fun i k=>if a.testBit i=true then -1 else k
theorem b3z (ch:List Int) (a:Nat):(b5j ch a).length=ch.length:=by simp[b5j]
theorem b4U {l:List Evt} {e:Evt} {m i:Nat} (hq:∀j x,j<m→l[j]? = some x→decide (x=e)=false) (hi:i≤m):hit id (l.take i) e=false:=by
 rw[b3d,List.any_eq_false];intro x hx;obtain⟨j,hj,rfl⟩:=List.getElem_of_mem hx;rw[List.length_take]at hj
 rw[List.getElem_take]
 simpa using hq j _ oM (List.getElem?_eq_getElem oM)
theorem b3e {l:List Evt} {e:Evt} {m i:Nat} (hm:m<i) (hl:m<l.length) (h:decide (l[m]=e)=true):hit id (l.take i) e=true:=by
 rw[b3d,List.any_eq_true];exact⟨l[m],List.mem_iff_getElem.2 ⟨m,by rw[List.length_take];omega,List.getElem_take⟩,h⟩
def c6G (l:List Rep) (n:Int):Bool:=a2m (fun _ r=>c4e r.options 6) l l.length&&decide (((l.length:Nat):Int)≤n)
def c3t (c:List Kind) (l:List Rep):Bool:=a1a c&&a2m (fun _ r=>a0l r) l l.length
theorem b4M {l:List Rep} {n:Int} (h:c6G l n=true):(∀r∈l,∀e∈r.options,SmE e)∧((l.length:Nat):Int)≤n:=by
 simp only[c6G,Bool.and_eq_true,decide_eq_true_eq]at h
 refine⟨fun r hr=>?_,h.2⟩;obtain⟨_,h1⟩:=a4g h.1 hr;exact (c8b h1).1
end Go.Sx
namespace Go.Proofs.YtkndpfncklhhlaaGreat
open Go Go.Sx Tryz
set_option linter.all false
set_option maxRecDepth 20000
set_option maxHeartbeats 4000000
theorem a6w (I:IMap) (r:Rep) (S:Option Addr) (d:Nat) (hr:RdS I (.slice S r.options.length d) r.options) (hs:∀e∈r.options,SmE e) :
    FnV prog 51 #[.agg (r.cells (.slice S r.options.length d)).toArray] I (.bool (a0l r)):=by
 have hSA:RdA I S r.options:=(by obtain⟨_,_,e,h,_⟩:=hr;cases e;exact h);have hl4:d≤9223372036854775807:=(by obtain⟨_,_,e,h,h1,h2⟩:=hr;cases e;exact h2);have hl5:=hr.lenLe;refine enter func51 call51 rfl ntmps51 rfl fun w0=>?_;refine go 4 fun g1=>?_
 refine go 5 ?_;refine a1h (I':=I) (L':=[(1,.pointer (some ⟨g1,0,none⟩)),(14,.bool (decide (((r.options.length:Nat):Int)<1)||decide ((4:Int)<(r.options.length:Nat))))]) (H':=[.blk g1 79 (r.cells (.slice S r.options.length d))]) ?_ ?_
 ·refine gS 6 9 (fun h9 p9=>?_) fun h9 p9=>?_
  ·refine go 7 ?_;exact a0h ⟨rfl,(bB (by simp only[h9,bS])),trivial⟩ rfl rfl
  ·refine go 7 ?_;exact a0h ⟨rfl,(bB (by simp only[h9,bS])),trivial⟩ rfl rfl
 ·refine gC 0 (fun h14 p14=>?_) fun h14 p14=>?_
  ·refine go 8 ?_;exact q_v (congrArg Value.bool (by simp only[a0l,show decide (((r.options.length:Nat):Int)=0)=decide (((r.options.length:Nat):Int)<1) from by rw[decide_eq_decide];omega,h14];rfl))
  ·refine go 9 ?_
   refine a0w (α:=Nat) 0 (fun i=>I)
    (fun i=>[(1,.pointer (some ⟨g1,0,none⟩)),(3,.int .i64 ((i:Nat):Int))])
    (fun i=>[.blk g1 79 (r.cells (.slice S r.options.length d))])
    (fun i=>i≤r.options.length∧a2m a4y r.options i=true)
    (fun i=>r.options.length-i) ⟨Nat.zero_le _,rfl⟩ rfl sb rfl ?_
   intro i ⟨hi,hn⟩;refine gC 10 (fun h19 p19=>?_) fun h19 p19=>?_
   ·have hlt:i<r.options.length:=oM;refine go 10 ?_;obtain⟨b25,o25,w25,e25,c25,r25⟩:=RdA.at_ hSA (i:=i) hlt;obtain rfl:=r25;refine go 3 ?_;refine cV (a8a _ r.options[i] (hs _ (List.getElem_mem hlt))) ?_;refine gC 3 (fun h28 p28=>?_) fun h28 p28=>?_
    ·refine go 13 ?_;exact q_v (congrArg Value.bool (by simp only[a0l,show decide (((r.options.length:Nat):Int)=0)=decide (((r.options.length:Nat):Int)<1) from by rw[decide_eq_decide];omega,h14,a0R hlt (show a4y (r.options.take i) r.options[i]=false by simp only[a4y,show a1t r.options[i]=false by simpa using h28,bS]),bS]))
    ·refine go 8 ?_
     refine a0w (α:=Nat) 0 (fun m=>I)
      (fun m=>[(1,.pointer (some ⟨g1,0,none⟩)),(3,.int .i64 ((i:Nat):Int)),(4,.int .i64 ((m:Nat):Int))])
      (fun m=>[.blk g1 79 (r.cells (.slice S r.options.length d))])
      (fun m=>m≤i∧∀j x,j<m→r.options[j]? = some x→decide (x=r.options[i])=false)
      (fun m=>i-m) ⟨Nat.zero_le _,fun j x hj=>absurd hj (Nat.not_lt_zero j)⟩ rfl sb rfl ?_
     intro m ⟨hmm,hq⟩;refine gC 8 (fun h31 p31=>?_) fun h31 p31=>?_
     ·have hlm:m<r.options.length:=oM;refine go 6 ?_;refine dG 0 3 ?_;obtain⟨b37,o37,w37,e37,c37,r37⟩:=RdA.at_ hSA (i:=m) hlm;obtain rfl:=r37;refine a0F 3 rfl rfl (by kernel_rfl) rfl (.refl _) rfl (a0i he rfl rfl e37 (m) oM hlm) ?_;refine dG 4 4 ?_;obtain⟨b42,o42,w42,e42,c42,r42⟩:=RdA.at_ hSA (i:=i) hlt;obtain rfl:=r42;refine dG 8 2 ?_;refine a0F 10 rfl rfl (by kernel_rfl) rfl (.refl _) rfl (a5F T.eqg_72 (b1O r.options[m] r.options[i]) rfl rfl) ?_;refine gC 2 (fun h44 p44=>?_) fun h44 p44=>?_
      ·refine go 16 ?_;exact q_v (congrArg Value.bool (by simp only[a0l,show decide (((r.options.length:Nat):Int)=0)=decide (((r.options.length:Nat):Int)<1) from by rw[decide_eq_decide];omega,h14,a0R hlt (show a4y (r.options.take i) r.options[i]=false by simp only[a4y,b3e (show m<i from oM) hlm h44,bS]),bS]))
      ·refine go 9 ?_;exact a0s (m+1) ⟨oM,a3c (p:=fun x=>decide (x=r.options[i])) hq (show m<r.options.length from oM) h44⟩ oM rfl sb rfl
     ·refine go 12 ?_;exact a0s (i+1) ⟨oM,a0T hn hlt (by simp only[a4y,b4U hq (show i≤m from oM),p28,bS])⟩ oM rfl sb rfl
   ·refine go 12 ?_;have e:i=r.options.length:=oM;subst e;exact q_v (congrArg Value.bool (by simp only[a0l,hn,show decide (((r.options.length:Nat):Int)=0)=decide (((r.options.length:Nat):Int)<1) from by rw[decide_eq_decide];omega,h14];rfl))
theorem a4O (I:IMap) (r:Rep) (S:Option Addr) (d:Nat) (hr:RdS I (.slice S r.options.length d) r.options) (hs:∀e∈r.options,SmE e) :
    FnV prog 72 #[.agg (r.cells (.slice S r.options.length d)).toArray] I (.int .i64 (chs r)):=by
 have hl5:=hr.lenLe;refine enter func72 call72 rfl ntmps72 rfl fun w0=>?_;refine go 4 fun g1=>?_
 refine go 8 ?_;refine cV (a6w _ r S d hr hs) ?_;refine gC 3 (fun h5 p5=>?_) fun h5 p5=>?_
 ·refine go 8 ?_;exact q_v (congrArg (Value.int .i64) (by simp only[chs,show a0l r=false by simpa using h5,Bool.true_eq_false,Bool.false_eq_true,if_true,if_false]))
 ·have hl4:=a2K (r:=r) (by simpa using h5);refine gC 9 (fun h7 p7=>?_) fun h7 p7=>?_
  ·refine go 5 ?_;refine o_v rfl (a2T rfl rfl ⟨oM,by have:=hl4;omega⟩) ?_;refine go 6 ?_;exact q_v (congrArg (Value.int .i64) (by simp only[chs,show a0l r=true by simpa using h5,h7,Bool.true_eq_false,Bool.false_eq_true,if_true,if_false]))
  ·refine go 12 ?_;exact q_v (congrArg (Value.int .i64) (by simp only[chs,show a0l r=true by simpa using h5,h7,Bool.true_eq_false,Bool.false_eq_true,if_true,if_false]))
theorem c5v (I:IMap) (v:Value) (l:List Rep) (hv:RdS I v l) (n:Int) :
    FnV prog 40 #[v,.int .i64 n] I (.bool (c6G l n)):=by
 obtain⟨A,c0,rfl,hA,hc,hm⟩:=hv;refine enter func40 call40 rfl ntmps40 rfl fun w0=>?_;refine go 12 ?_
 refine a0w (α:=Nat) 0 (fun i=>I)
  (fun i=>[(0,.slice A l.length c0),(1,.int .i64 n),(5,.int .i64 ((i:Nat):Int))])
  (fun i=>[])
  (fun i=>i≤l.length∧a2m (fun _ r=>c4e r.options 6) l i=true)
  (fun i=>l.length-i) ⟨Nat.zero_le _,rfl⟩ rfl sb rfl ?_
 intro i ⟨hi,hn⟩;refine gS 8 10 (fun h10 p10=>?_) fun h10 p10=>?_
 ·have hlt:i<l.length:=oM;refine gC 7 (fun h15 p15=>?_) fun h15 p15=>?_
  ·have hlt:i<l.length:=oM;refine go 8 ?_;obtain⟨b20,o20,w20,e20,c20,r20⟩:=RdA.at_ hA (i:=i) hlt;obtain⟨q20,rfl,S20,d20,rfl,hS20,hd20,hm20⟩:=r20;refine go 4 ?_;refine cV (c9m _ _ l[i].options ⟨_,_,rfl,hS20,hd20,hm20⟩ 6) ?_;refine gC 3 (fun h24 p24=>?_) fun h24 p24=>?_
   ·refine go 12 ?_;exact q_v (congrArg Value.bool (by simp only[c6G,a0R (f:=fun _ r=>c4e r.options 6) hlt (by simpa using h24),bS]))
   ·refine go 9 ?_;exact a0s (i+1) ⟨oM,a0T hn hlt (by simpa using h24)⟩ oM rfl sb rfl
  ·refine go 16 ?_;exact q_v (congrArg Value.bool (by rw[c6G,show decide (((l.length:Nat):Int)≤n)=false from decide_eq_false oM];simp))
 ·refine go 24 ?_;have e:i=l.length:=oM;subst e;exact q_v (congrArg Value.bool (by simp only[c6G,hn,bS]))
end Go.Proofs.YtkndpfncklhhlaaGreat
set_option linter.all false
namespace Go.Sx
open Go
def okK (r:Rep) (k:Int):Bool:=!(decide (k<0)||decide (chs r≤k))
def d1i (l:List Rep) (ch:List Int) (i:Nat):Option Evt:=(at2 (fun r k=>r.options[k.toNat]?) l ch i).join
def a5u (l:List Rep) (ch:List Int) (n:Nat):List Evt:=(List.range n).filterMap (d1i l ch)
def a1j (l:List Rep) (ch:List Int):List Evt×Int:=if (decide (((l.length:Nat):Int)=(ch.length:Nat))&&a7a okK l ch l.length)=true then (a5u l ch l.length,0) else ([],1)
theorem b1R (l:List Rep) (ch:List Int) (i:Nat):a5u l ch (i+1)=a5u l ch i++(d1i l ch i).toList:=by
 rw[a5u,List.range_succ,List.filterMap_append,a5u]
 congr 1
theorem b4I {l:List Rep} {ch:List Int} {i:Nat} (h1:i<l.length) (h2:i<ch.length):d1i l ch i=l[i].options[ch[i].toNat]?:=by
 rw[d1i,a2V h1 h2];rfl
theorem c6F {l:List Rep} {ch:List Int} {i:Nat} {out:List Evt} (h1:i<l.length) (h2:i<ch.length) (hw:a5u l ch i=out) (h:ch[i]=(l[i].options.length:Nat)):a5u l ch (i+1)=out:=by
 rw[b1R,hw,b4I h1 h2,List.getElem?_eq_none oM];simp
theorem c0q {l:List Rep} {ch:List Int} {i:Nat} {out:List Evt} (h1:i<l.length) (h2:i<ch.length) (hw:a5u l ch i=out) (hk:ch[i].toNat<l[i].options.length):a5u l ch (i+1)=out++[l[i].options[ch[i].toNat]]:=by
 rw[b1R,hw,b4I h1 h2,List.getElem?_eq_getElem hk];rfl
theorem b4K (l:List Rep) (ch:List Int) (i:Nat):(a5u l ch i).length≤i:=by
 unfold a5u;exact Nat.le_trans (List.length_filterMap_le _ _) (by simp)
theorem c6C (r:Rep):chs r≤(r.options.length:Nat)+1:=by
 unfold chs
 split
 ·omega
 ·split<;>omega
theorem b3G {l:List Rep} {ch:List Int} (h:¬((l.length:Nat):Int)=(ch.length:Nat)):a1j l ch=([],1):=by
 simp[a1j,h]
theorem a6s {l:List Rep} {ch:List Int} {i:Nat} (h1:i<l.length) (h2:i<ch.length) (h:okK l[i] ch[i]=false):a1j l ch=([],1):=by
 simp[a1j,a7b h1 h1 h2 h]
theorem b3H {l:List Rep} {ch:List Int} (hl:((l.length:Nat):Int)=(ch.length:Nat)) (h:a7a okK l ch l.length=true):a1j l ch=(a5u l ch l.length,0):=by
 simp[a1j,hl,h]
end Go.Sx
set_option linter.all false
namespace Go.Sx
open Go
section
variable {P:Program} {n:Sz} {E:Ent} {I:IMap} {L:LL} {H:List Res} {K:Act→World→Prop}
variable {α:Type} [Enc α]
theorem c9S {v:Value} {e k m:Nat} {xs:List Value} {l:List α} (hF:Flat I xs l) (hk:k=Enc.k α) (hm:m=l.length) (h0:0<l.length)
  (h:∀g cap rest xss,v = .slice (some ⟨g,0,none⟩) m cap→FlatC I xss l→Uk k rest→m+rest.length=cap→cap≤maxLen→SX n E I L (.blk g e (xss++rest).flatten::H) K):SX n E I L (.row v e k m xs::H) K:=by
 obtain⟨xss,rfl,hC⟩:=FlatC.of hF;refine a7L (xss:=xss) (m:=m) (by rw[hk];exact hC.uk) (by rw[hC.len,hm]) (fun h1 _=>absurd h1 oM) (fun g cap rest hv hR hc hl=>h g cap rest xss hv hC hR hc hl)
theorem b4d {g e k m cap i:Nat} {xss rest:List (List Value)} {c:List Value} {l:List α} (x:α) (hC:FlatC I xss l) (hR:Uk k rest) (hk:k=Enc.k α) (hm:m=l.length) (hi:i<l.length) (hc:m+rest.length=cap) (hl:cap≤maxLen) (hx:Enc.rd I c x)
  (h:∀ws,Flat I ws (l.set i x)→SX n E I L (.row (.slice (some ⟨g,0,none⟩) m cap) e k m ws::H) K):SX n E I L (.blk g e ((xss++rest).set i c).flatten::H) K:=by
 have hlen:i<xss.length:=by rw[hC.len];exact hi
 rw[List.set_append_left _ _ hlen];have hC':=hC.set hx i;refine a2q (by rw[hk];exact hC'.uk) hR (by rw[hC'.len,List.length_set,hm]) hc hl (h _ hC'.flat)
theorem a2I {v:Value} {e k m:Nat} {xs:List Value} (h:∀A c,v = .slice A m c→SX n E I L (.row v e k m xs::H) K):SX n E I L (.row v e k m xs::H) K:=by
 refine b5M (p:=∃h,IsRow h v e k m xs) (fun w mm=>⟨_,mm.holds _ (List.mem_cons_self ..)⟩) fun ⟨_,_,hr⟩=>?_
 rcases hr with ⟨rfl,rfl⟩|⟨g,cap,cur,rfl,_⟩
 ·exact h _ _ rfl
 ·exact h _ _ rfl
end
section
variable {α:Type} [Enc α] {I:IMap} {A:Option Addr} {m c:Nat} {l:List α}
theorem RdS.toA (h:RdS I (.slice A m c) l):RdA I A l:=by
 obtain⟨_,_,e,h,_⟩:=h
 injection e with e1 e2 e3
 subst e1;exact h
end
section
variable {P:Program} {b:Frame} {a:Act} {k:List Item} {cs:List Frame} {w:World} {Q:Exit→Act→World→Prop} {F:Fence}
theorem a3I {c:Code}:step P (lone (b.atR a (.code (.scope c)::k)) cs w) = .next (lone (b.atR a (.code c :: .inScope c::k)) cs w):=
 step_lone_go (by simp[stepG,stepG.exec,Frame.atR])
theorem b2B {c:Code}:step P (lone (b.atR a (.inScope c::k)) cs w) = .next (lone (b.atR a k) cs w):=
 step_lone_go (by simp[stepG,stepG.exec,Frame.atR])
theorem b9q {n:Nat} {c:Code} (h:c.wpIn F n P (Exit.noGoto Q) a w):(Code.scope c).wpIn F n P Q a w:=by
 intro b k cs hro hb hr;have h0:(lone (b.atR a (.code (.scope c)::k)) cs w).fenced P F:=fenced_calm hb hr rfl;obtain⟨e,a₁,w₁,hq,harr⟩:=h b (.inScope c::k) cs hro hb hr
 cases e with
 |normal=>exact⟨.normal,a₁,w₁,hq,.head h0 a3I (StepsIn.trans harr (.one (fenced_calm hb hr rfl) b2B))⟩
 |exit id=>
  have hx:exitTo id (.inScope c::k)=exitTo id k:=by simp[exitTo]
  exact⟨.exit id,a₁,w₁,hq,fun k' hk=>.head h0 a3I (harr.1 k' (by rw[hx];exact hk)),
   fun hr' hk=>let ⟨k₁,h1,h2⟩:=harr.2 hr' (by rw[hx];exact hk);⟨k₁,h1,.head h0 a3I h2⟩⟩
 |goto l=>exact hq.elim
 |ret=>exact⟨_,a₁,w₁,hq,.of_steps (.one h0 a3I) harr⟩
 |panic ch=>exact⟨_,a₁,w₁,hq,.of_steps (.one h0 a3I) harr⟩
 |outgrown=>exact⟨_,a₁,w₁,hq,.of_steps (.one h0 a3I) harr⟩
end
section
variable {P:Program} {ρ:Option Nat} {n:Sz} {E:Ent} {I:IMap} {L:LL} {H:List Res} {Q:Exit→Act→World→Prop}
theorem c7G {c:Code} (h:SX n E I L H (c.wq ρ P (Exit.noGoto Q))):SX n E I L H ((Code.scope c).wq ρ P Q):=fun a w s m=>b9q (h a w s m)
theorem c7D {l:Nat} (h:SX n E I L H (Q .normal)):SX n E I L H ((Code.label l).wq ρ P Q):=fun a w s m=>wpIn_label (h a w s m)
theorem a8X (h:SX n E I L H (Q .ret)):SX n E I L H (Exit.noGoto Q .ret):=h
end
end Go.Sx
namespace Go.Proofs.YtkndpfncklhhlaaGreat
open Go Go.Sx Tryz
set_option linter.all false
set_option maxRecDepth 20000
set_option maxHeartbeats 4000000
theorem c2p (I:IMap) (v:Value) (l:List Rep) (hv:RdS I v l) (hl:l.length≤1000000) (hsl:∀r∈l,∀e∈r.options,SmE e) (w:Value) (ch:List Int) (hw:RdS I w ch) :
    FnI prog 47 #[v,w] I (fun u J=>∃z,u = .tuple #[z,.int .i64 (a1j l ch).2]∧RdS J z (a1j l ch).1):=by
 obtain⟨A,c0,rfl,hA,hc,hm⟩:=hv;obtain⟨B,c1,rfl,hB,hc1,hm1⟩:=hw;refine enter func47 call47 rfl ntmps47 rfl fun w0=>?_;refine go 6 ?_;refine c7G ?_;refine gC 10 (fun h14 p14=>?_) fun h14 p14=>?_
 ·refine go 8 ?_;refine a8X ?_;refine go 1 ?_;exact q_i ⟨_,by rw[b3G (by simpa using h14)],by rw[b3G (by simpa using h14)];exact RdS.nil'⟩
 ·have hle:((l.length:Nat):Int)=(ch.length:Nat):=by simpa using h14
  refine go 4 ?_;refine a0G 72 14 ?_;refine go 4 ?_;refine c7D ?_;refine go 10 ?_
  refine a2C ((0:Nat)) (_) ([]) ([]) (fun i v6 xs out=>I)
   (fun i v6 xs out=>[(1,.slice B ch.length c1),(6,v6),(15,.slice A l.length c0),(16,.int .i64 ((l.length:Nat):Int)),(17,.int .i64 ((i:Nat):Int))])
   (fun i v6 xs out=>[.row v6 72 14 out.length xs])
   (fun i v6 xs out=>i≤l.length∧a7a okK l ch i=true∧a5u l ch i=out∧Flat I xs out)
   (fun i v6 xs out=>l.length-i) ⟨Nat.zero_le _,rfl,rfl,.nil⟩ rfl sb rfl ?_
  intro i v6 xs out ⟨hi,hok,hev,hF⟩;have hol:out.length≤i:=by rw[←hev];exact b4K _ _ _
  refine gC 6 (fun h18 p18=>?_) fun h18 p18=>?_
  ·have hlt:i<l.length:=oM;have hlt2:i<ch.length:=oM;refine go 7 ?_;obtain⟨b20,o20,w20,e20,c20,r20⟩:=RdA.at_ hA (i:=i) oM;obtain⟨q20,rfl,S20,d20,rfl,hS20,hd20,hm20⟩:=r20;refine go 4 fun g8=>?_
   refine go 9 ?_;obtain⟨b24,o24,w24,e24,c24,r24⟩:=RdA.at_ hB (i:=i) oM;obtain rfl:=r24;refine gS 11 28 (fun h28 p28=>?_) fun h28 p28=>?_
   ·have hbad:okK l[i] ch[i]=false:=by simp[okK,h28]
    refine go 21 ?_;refine a8X ?_;refine go 1 ?_;exact q_i ⟨_,by rw[a6s hlt hlt2 hbad],by rw[a6s hlt hlt2 hbad];exact RdS.nil'⟩
   ·refine go 3 ?_;refine a0z rfl rfl h28 (a0x (a5l _ l[i] S20 d20 ⟨_,_,rfl,hS20,hd20,hm20⟩ (hsl _ (List.getElem_mem hlt))) rfl rfl ?_);refine gC 4 (fun h33 p33=>?_) fun h33 p33=>?_
    ·have hbad:okK l[i] ch[i]=false:=by simp_all [okK]
     refine go 13 ?_;refine a8X ?_;refine go 1 ?_;exact q_i ⟨_,by rw[a6s hlt hlt2 hbad],by rw[a6s hlt hlt2 hbad];exact RdS.nil'⟩
    ·have hgood:okK l[i] ch[i]=true:=by simp_all [okK]
     have hcl:=c6C l[i];refine gC 12 (fun h38 p38=>?_) fun h38 p38=>?_
     ·refine go 9 ?_;refine a0a ?_;exact a1k (i+1) (_) (_) (out) ⟨oM,a6k hok hlt hlt2 hgood,c6F hlt hlt2 hev (by simpa using h38),hF⟩ oM rfl sb (by first|rfl|(simp only[List.length_append,List.length_singleton];rfl)|simp only[List.length_append,List.length_singleton])
     ·have hk:ch[i].toNat<l[i].options.length:=by simp_all [okK];omega
      refine go 7 ?_;obtain⟨b43,o43,w43,e43,c43,r43⟩:=RdA.at_ hS20 (i:=ch[i].toNat) hk;obtain rfl:=r43;refine o_v rfl (a0i he rfl rfl e43 (ch[i].toNat) oM hk) ?_;refine go 3 fun v45=>?_
      refine go 1 ?_;refine a0c ?_;refine a0o he he rfl rfl rfl rfl rfl oM oM rfl fun v46=>?_;refine go 9 ?_;refine a0b ?_;refine a0a ?_;refine a0b ?_;refine a0a ?_;exact a1k (i+1) (_) (_) (out++[l[i].options[ch[i].toNat]]) ⟨oM,a6k hok hlt hlt2 hgood,c0q hlt hlt2 hev hk,hF.append (.one rfl)⟩ oM rfl sb (by first|rfl|(simp only[List.length_append,List.length_singleton];rfl)|simp only[List.length_append,List.length_singleton])
  ·refine go 7 ?_;obtain rfl:i=l.length:=oM;refine a0d (l:=out) rfl rfl (hF) fun Ip jp Rp=>?_;refine go 6 ?_;refine a8X ?_;refine go 1 ?_;exact q_i ⟨_,by rw[b3H hle hok],by rw[b3H hle hok,hev];exact Rp⟩
end Go.Proofs.YtkndpfncklhhlaaGreat
set_option linter.all false
namespace Go.Sx
open Go
def a2v (l:List ByteArray):List (List Value):=l.map fun s=>[.string s]
theorem a2H (l:List ByteArray):Uk 1 (a2v l):=fun c hc=>by obtain⟨e,_,rfl⟩:=List.mem_map.1 hc;rfl
theorem a4d (l:List ByteArray):(a2v l).length=l.length:=by simp[a2v]
theorem a7J (I:IMap):∀l:List ByteArray,FlatC I (a2v l) l
 | []=>.nil
 |s::r=>.cons rfl (a7J I r)
theorem c2C {I:IMap} {xss:List (List Value)} {l:List ByteArray} (h:FlatC I xss l):xss=a2v l:=by
 induction h with
 |nil=>rfl
 |cons h1 _ ih=>rw[ih];simp only[a2v,List.map_cons];rw[show _=_ from h1]
theorem a6i {l:List ByteArray} {rest:List (List Value)} {i:Nat} (h:i<l.length):(a2v l++rest)[i]? = some [.string l[i]]:=by
 rw[List.getElem?_append_left (by rw[a4d];exact h)];simp[a2v,h]
theorem b0i {l:List ByteArray} {rest:List (List Value)} {i:Nat} (h:i<l.length) (s:ByteArray):(a2v l++rest).set i [.string s]=a2v (l.set i s)++rest:=by
 rw[List.set_append_left _ _ (by rw[a4d];exact h)]
 congr 1
 simp[a2v,List.map_set]
def Pm (l m:List ByteArray):Prop:=m.length=l.length∧∀x,x∈m↔x∈l
theorem Pm.refl (l:List ByteArray):Pm l l:=⟨rfl,fun _=>Iff.rfl⟩
theorem Pm.swap {l m:List ByteArray} {i j:Nat} (h:Pm l m) (hi:i<m.length) (hj:j<m.length):Pm l ((m.set i m[j]).set j m[i]):=by
 have hp:((m.set i m[j]).set j m[i]).Perm m:=List.set_set_perm hi hj;exact⟨by rw[List.length_set,List.length_set];exact h.1,fun x=>by rw[hp.mem_iff];exact h.2 x⟩
theorem c2D {l:List ByteArray} {rest:List (List Value)} {i j:Nat} (hi:i<l.length) (hj:j<l.length):((a2v l++rest).set i [.string l[j]]).set j [.string l[i]]=a2v ((l.set i l[j]).set j l[i])++rest:=by
 rw[b0i hi,b0i (by rw[List.length_set];exact hj)]
theorem b7E {l:List ByteArray} {rest:List (List Value)} {i j:Nat} (hi:i<l.length) (hj:j<l.length) (hij:i≠j):((a2v l++rest).set j [.string l[i]]).set i [.string l[j]]=a2v ((l.set i l[j]).set j l[i])++rest:=by
 rw[b0i hj,b0i (by rw[List.length_set];exact hi),List.set_comm _ _ hij.symm]
theorem a6o {α:Type} {ls:List (List α)} {i:Nat} (h:i<ls.length):(ls.take (i+1)).flatten=(ls.take i).flatten++ls[i]:=by
 rw[←a0e h,List.flatten_append];simp
theorem a6n {α:Type} (ls:List (List α)) (i:Nat):((ls.take i).flatten).length≤ls.flatten.length:=by
 conv=>rhs;rw[←List.take_append_drop i ls,List.flatten_append,List.length_append]
 omega
theorem c7S (b:UInt8):IntKind.i64.wrap ((b.toNat:Nat):Int)=((b.toNat:Nat):Int):=by
 have:=b.toNat_lt;rw[IntKind.wrap_i64];omega
theorem c3P (b:UInt8):I64 (0+((b.toNat:Nat):Int)):=by
 have:=b.toNat_lt;exact⟨oM,oM⟩
def a5t (r:Rep) (ns:List ByteArray):Prop:=(∀x,x∈ns↔a0l r=true∧∃e∈r.options,x∈a1H e)∧ns.length≤8
theorem b1c {e:Evt} (h:a1t e=true):1≤(a1H e).length∧(a1H e).length≤2:=by
 unfold a1H;rw[if_neg (by rw[h];decide)]
 split<;>simp
theorem a7Y:∀(l:List Evt),(∀e∈l,a1t e=true)→l.length≤(l.map a1H).flatten.length∧(l.map a1H).flatten.length≤2 * l.length
 | [],_=>by simp
 |e::r,h=>by
  have h1:=b1c (h e (by simp));have h2:=a7Y r fun x hx=>h x (by simp[hx])
  simp only[List.map_cons,List.flatten_cons,List.length_append,List.length_cons]
  omega
theorem b3q {r:Rep} (hv:a0l r=true) {m:List ByteArray} (hm:∀x,x∈m↔x∈(r.options.map a1H).flatten) (hl:m.length≤(r.options.map a1H).flatten.length):a5t r m:=by
 have h1:=a7Y r.options (a3r hv);have h2:=a2K hv;refine⟨fun x=>?_,oM⟩;rw[hm x,List.mem_flatten]
 constructor
 ·rintro⟨ns,hns,hx⟩;obtain⟨e,he,rfl⟩:=List.mem_map.1 hns;exact⟨hv,e,he,hx⟩
 ·rintro⟨_,e,he,hx⟩;exact⟨_,List.mem_map.2 ⟨e,he,rfl⟩,hx⟩
theorem b1d {r:Rep} (hv:a0l r=false):a5t r []:=⟨fun x=>by simp[hv],by simp⟩
structure Cpt (l B:List ByteArray) (k p:Nat):Prop where
 len:B.length=l.length
 kp:k+1≤p
 pl:p≤l.length
 tail:∀j,p-1≤j→B[j]? = l[j]?
 mem:∀x,x∈B.take k↔x∈l.take p
theorem Cpt.start {l:List ByteArray} {k:Nat} (hk:1≤k) (hl:k<l.length) (h:l[k]=l[k-1]):Cpt l l k (k+1):=by
 refine⟨rfl,Nat.le_refl _,hl,fun _ _=>rfl,fun x=>?_⟩;rw[←a0e hl]
 constructor
 ·intro hx;exact List.mem_append_left _ hx
 ·intro hx
  rcases List.mem_append.1 hx with hx|hx
  ·exact hx
  ·obtain rfl:=List.mem_singleton.1 hx;rw[h];exact List.mem_take_iff_getElem.2 ⟨k-1,oM,rfl⟩
theorem Cpt.skip {l B:List ByteArray} {k p:Nat} (h:Cpt l B k p) (hp:p<l.length) (he:l[p]=l[p-1]) (h1:1≤p):Cpt l B k (p+1):=by
 refine⟨h.len,by have:=h.kp;omega,hp,fun j hj=>h.tail j oM,fun x=>?_⟩;rw[h.mem x,←a0e hp]
 constructor
 ·intro hx;exact List.mem_append_left _ hx
 ·intro hx
  rcases List.mem_append.1 hx with hx|hx
  ·exact hx
  ·obtain rfl:=List.mem_singleton.1 hx;rw[he];exact List.mem_take_iff_getElem.2 ⟨p-1,oM,rfl⟩
theorem Cpt.keep {l B:List ByteArray} {k p:Nat} (h:Cpt l B k p) (hp:p<l.length):Cpt l (B.set k l[p]) (k+1) (p+1):=by
 have hkp:=h.kp;have hkB:k<B.length:=by rw[h.len];omega
 refine⟨by rw[List.length_set];exact h.len,oM,hp,fun j hj=>?_,fun x=>?_⟩
 ·rw[List.getElem?_set_ne oM];exact h.tail j oM
 ·rw[←a0e (l:=B.set k l[p]) (i:=k) (by rw[List.length_set];exact hkB),←a0e hp,List.mem_append,List.mem_append,List.getElem_set_self,List.take_set_of_le (Nat.le_refl _),h.mem x]
theorem Cpt.get {l B:List ByteArray} {k p j:Nat} (h:Cpt l B k p) (hj:p-1≤j) (hl:j<l.length) (hb:j<B.length):B[j]=l[j]:=by
 have:=h.tail j hj;rw[List.getElem?_eq_getElem hl,List.getElem?_eq_getElem hb]at this
 exact Option.some.inj this
theorem Cpt.done {l B:List ByteArray} {k:Nat} (h:Cpt l B k l.length) (x:ByteArray):x∈B.take k↔x∈l:=by
 rw[h.mem x,List.take_length]
theorem c2B {B:List ByteArray} {rest:List (List Value)} {zs:List Value} {k m:Nat} (hk:k+m=B.length):(a2v B++rest).take k++(List.replicate m zs++(a2v B++rest).drop (k+m))=a2v (B.take k)++(List.replicate m zs++rest):=by
 rw[List.take_append_of_le_length (by rw[a4d];omega),hk,←a4d B,List.drop_left,a2v,a2v,List.map_take]
section
variable {P:Program} {ρ:Option Nat} {n:Sz} {E:Ent} {I:IMap} {L:LL} {H:List Res} {Q:Exit→Act→World→Prop} {ops:Array Oper} {K:Act→World→Prop}
variable {d ty:Nat} {pos:String} {af:Array Edge} {x y z:Operand}
theorem a3Y {g off tt t':Nat} {xss:List (List Value)} {v:Value} (hm:Res.blk g t' xss.flatten∈H) (hU:Uk 1 xss) (ht:tyK P tt=some (false,1)) (hx:ev L x=some (.pointer (some ⟨g,off,none⟩))) (i:Nat) (ho:off=i) (hi:xss[i]? = some [v]) :
  OV P n E I L H ⟨some d,.load tt x,ty,pos,af,none⟩ v:=b0v hm ht hx (by
 subst ho;have h:=b4R hU hi;rw[Nat.mul_one]at h
 have:=congrArg (fun l:List Value=>l[0]?) h
 simpa using this)
theorem d0l {ts:Nat} {s:ByteArray} {i:Int} {kd:IntKind} (ht:P.underlying ts=some .string) (hx:ev L x=some (.string s)) (hy:ev L y=some (.int kd i)) (q:Nat) (hq:i=(q:Int)) (hlt:q<s.size):OV P n E I L H ⟨some d,.index ts x y,ty,pos,af,none⟩ (.int .u8 ((s[q]!.toNat:Nat):Int)):=
 (fun a w st _=>by
  subst hq;have hs:s[q]? = some (s[q]!):=by rw[getElem?_pos s q hlt,getElem!_pos s q hlt]
  simp[execOp,st.ev hx,st.ev hy,Instr.index,asIntOf,run_underlying ht,hs])
theorem b2j {tt tn e k bytes q:Nat} {kn kq:IntKind} {zs:List Value} (he:P.underlying tt=some (.slice e)) (hn:P.underlying tn=some (.int kn)) (hb:a2A P e=some (zs,k,bytes)) (hzs:zs.length=k) (hk0:Nat.blt 0 k=true)
  (hx:ev L x=some (.slice none 0 0)) (hy:ev L y=some (.int kq (q:Nat))) (hq:0<q) (hroom:q * bytes≤140737488355328) (hlen:q≤maxLen) (hd:Nat.blt d n.sz=true)
  (kk:∀g' r,q+r≤maxLen→SX n E I ((d,.slice (some ⟨g',0,none⟩) q (q+r))::L) (.blk g' e (List.replicate (q+r) zs).flatten::H) K) :
  SX n E I L H (one P ops Q ⟨some d,.call { callee:=.builtin .append,args:=#[x,y],argTypes:=#[tt,tn] },ty,pos,af,none⟩ K):=
 a8C (fun q':Nat×Nat=>.slice (some ⟨q'.1,0,none⟩) q (q+q'.2)) (fun _=>I) (fun q'=>.blk q'.1 e (List.replicate (q+q'.2) zs).flatten::H) (fun q'=>q+q'.2≤maxLen) hd
  (fun a w st mm=>by
   unfold a2A at hb
   split at hb
   ·rename_i inf hi
    cases hz:inf.zero with
    |none=>simp[hz]at hb
    |some z0=>
     simp only[hz,Option.map_some,Option.some.injEq,Prod.mk.injEq]at hb
     obtain⟨hz1,hz2,hz3⟩:=hb;have hk':0<k:=by simpa[Nat.blt_eq]using hk0
     have hz0:z0.cells=zs.toArray:=by rw[←hz1]
     have hold:(Builtin.firstCells inf.size 0 (.slice none 0 0)).run P w.drew = .ok ([]:List Value).toArray w.drew:=by
      have hl0:∀(b:Addr),(loadCells b 0).run P w.drew = .ok #[] w.drew:=fun b=>run_loadCells_list (P:=P) w.drew b [] (fun j v hv=>by simp at hv)
      simp[Builtin.firstCells,hl0]
     have hg:0<0+q:=oM;have hcapq:grownCap w (0+q) 0 e=q+(grownCap w (0+q) 0 e-q):=by have:=grownCap_ge w (0+q) 0 e;omega
     have h48:Builtin.nextslicecap (0+q) 0 * inf.bytes≤281474976710656:=by
      have h1:Builtin.nextslicecap (0+q) 0 * inf.bytes≤2 * (0+q) * inf.bytes:=Nat.mul_le_mul_right _ (Room.nextslicecap_le' hg);rw[Nat.mul_assoc,hz3]at h1
      rw[hz3]
      simp only[Nat.zero_add]at h1 ⊢
      omega
     have h48q:q * inf.bytes≤281474976710656:=by rw[hz3];omega
     have hr:=Lib.run_append_grow_zeros (P:=P) w tt tn ty e inf z0 kq kn he hn hi hz none 0 0 [] hold q hq oM hg (by unfold maxLen at hlen;omega) h48q h48
     have hzc:∀q,Builtin.zeroCells z0.cells q=(List.replicate q zs).flatten.toArray:=fun q=>by
      have h2:Builtin.zeroCells zs.toArray q=madeCells zs.toArray (q * zs.length):=by simp[Builtin.zeroCells,madeCells]
      rw[hz0,h2,a6j zs oM,a7P]
     rw[hzc,hzc]at hr
     simp only[Nat.zero_add]at hr hcapq
     refine⟨(w.heap.size,grownCap w q 0 e-q),w.drew.alloc (.cells (List.replicate (q+(grownCap w q 0 e-q)) zs).flatten.toArray e),?_,?_,mm.drew.alloc e _⟩
     ·show q+(grownCap w q 0 e-q)≤maxLen
      rw[←hcapq];exact grownCap_le_maxLen w q 0 e hlen
     ·have e1:([]:List Value).toArray++(List.replicate q zs).flatten.toArray++(List.replicate (grownCap w q 0 e-q) zs).flatten.toArray=(List.replicate (q+(grownCap w q 0 e-q)) zs).flatten.toArray:=by
       rw[List.append_toArray []  ,List.nil_append,List.append_toArray,←List.flatten_append,List.replicate_append_replicate]
      rw[e1]at hr
      simp only[execOp,resolve,invoke,builtin,Sem.run_bind,Sem.run_pure,Result.andThen_ok,List.map_toArray,List.map_cons,List.map_nil,st.ev hx,st.ev hy,hr]
      rw[←hcapq]
   ·cases hb) fun q' hq'=>kk q'.1 q'.2 hq'
theorem FnX.backE {f:FuncId} {args:Array Value} {g e k:Nat} {xs:List Value} {p:Value→Res→Prop}
  (h:FnX P f args I [.blk g e xs] (fun u r=>∃yss rest m cap,Uk k yss∧Uk k rest∧yss.length=m∧m+rest.length=cap∧cap≤maxLen∧r = .blk g e (yss++rest).flatten∧p u (.row (.slice (some ⟨g,0,none⟩) m cap) e k m yss.flatten))):FnX P f args I [.blk g e xs] p:=
 ⟨fun w m'=>(h.go w m').mono fun _ w' ⟨u,I',H',he,hm',hq⟩=>by
  obtain⟨rfl,r',rfl,yss,rest,m,cap,hU,hR,hm,hc,hl,rfl,hp⟩:=hq;refine⟨_,_,_,he,?_,rfl,_,rfl,hp⟩;have hb:w'.heap[g]? = some (.cells (yss++rest).flatten.toArray e (0,0)):=hm'.blk
  exact hm'.step rfl ⟨rfl,Nat.le_refl _⟩ rfl (Nat.le_refl _) (fun _ _ _=>rfl) (IsRow.shut hb hU hR hm hc hl) (fun g' hg'=>.inl hg')⟩
theorem FnX.weak {f:FuncId} {args:Array Value} {H:List Res} {p q:Value→Res→Prop} (h:FnX P f args I H p) (hpq:∀u r,p u r→q u r):FnX P f args I H q:=
 ⟨fun w m'=>(h.go w m').mono fun _ w' ⟨u,I',H',he,hm',hq⟩=>by
  obtain⟨rfl,r',rfl,hp⟩:=hq
  exact⟨_,_,_,he,hm',rfl,_,rfl,hpq _ _ hp⟩⟩
theorem FnX.of_rowF {α:Type} [Enc α] {f:FuncId} {args:Value→List Value} {p:Value→Res→Prop} {v:Value} {e k m:Nat} {xs:List Value} {l:List α} (hF:Flat I xs l) (hk:k=Enc.k α) (hm:m=l.length) (h0:0<l.length)
  (h1:∀g cap rest xss,v = .slice (some ⟨g,0,none⟩) m cap→FlatC I xss l→Uk k rest→m+rest.length=cap→cap≤maxLen→FnX P f (args (.slice (some ⟨g,0,none⟩) m cap)).toArray I [.blk g e (xss++rest).flatten] p):FnX P f (args v).toArray I [.row v e k m xs] p:=by
 obtain⟨xss,rfl,hC⟩:=FlatC.of hF;exact FnX.of_rowV (by rw[hk];exact hC.uk) (by rw[hC.len,hm]) (fun h _=>absurd h oM) fun g cap rest hv hR hc hl=>h1 g cap rest xss hv hC hR hc hl
end
end Go.Sx
namespace Go.Proofs.YtkndpfncklhhlaaGreat
open Go Go.Sx Tryz
set_option linter.all false
set_option maxRecDepth 20000
set_option maxHeartbeats 4000000
instance:Has (prog.underlying 277) (.int .u64):=hk
theorem d1z (I:IMap) (s:ByteArray) :
    FnV prog 206 #[.string s] I (.bool false):=by
 refine enter func206 call206 rfl ntmps206 rfl fun w0=>?_;refine go 15 ?_;exact q_v (congrArg Value.bool (by simp))
theorem d3U (I:IMap) (s t:ByteArray) :
    FnV prog 221 #[.string s,.string t] I (.bool (sLt s t)):=by
 refine enter func221 call221 rfl ntmps221 rfl fun w0=>?_;refine go 9 ?_;refine cV (d1z _ s) ?_;refine go 15 ?_;exact q_v rfl
theorem d1w (I:IMap) {rest:Rst 1} {cap:Nat} (g:Nat) (l:List ByteArray) (hl2:l.length≤12) (hc:l.length+rest.l.length=cap) (hcm:cap≤maxLen) :
    FnX prog 215 #[.slice (some ⟨g,0,none⟩) l.length cap,.int .i64 0,.int .i64 ((l.length:Nat):Int)] I [.blk g 9 (a2v l++rest.l).flatten] (fun u r=>u = .tuple #[]∧∃m,Pm l m∧r = .blk g 9 (a2v m++rest.l).flatten):=by
 refine enter func215 call215 rfl ntmps215 rfl fun w0=>?_;refine go 3 ?_;refine o_v rfl (OV.cast (u:=.int .i64 ((1:Nat):Int)) (a2T rfl rfl ⟨oM,oM⟩) (congrArg (Value.int .i64) oM)) ?_;refine go 4 ?_
 refine a1i (1) (l) (fun i m=>I)
  (fun i m=>[(0,.slice (some ⟨g,0,none⟩) l.length cap),(1,.int .i64 0),(2,.int .i64 ((l.length:Nat):Int)),(6,.int .i64 ((i:Nat):Int))])
  (fun i m=>[.blk g 9 (a2v m++rest.l).flatten])
  (fun i m=>(i≤l.length∨i=1)∧Pm l m)
  (fun i m=>l.length-i) ⟨.inr rfl,Pm.refl l⟩ rfl sb rfl ?_
 intro i m ⟨hi,hpm⟩;refine gC 8 (fun h12 p12=>?_) fun h12 p12=>?_
 ·have hlt:i<l.length:=oM;refine go 11 ?_
  refine a1i (i) (m) (fun j k=>I)
   (fun j k=>[(0,.slice (some ⟨g,0,none⟩) l.length cap),(1,.int .i64 0),(2,.int .i64 ((l.length:Nat):Int)),(6,.int .i64 ((i:Nat):Int)),(7,.int .i64 ((j:Nat):Int))])
   (fun j k=>[.blk g 9 (a2v k++rest.l).flatten])
   (fun j k=>j≤i∧Pm l k)
   (fun j k=>j) ⟨Nat.le_refl _,hpm⟩ rfl sb rfl ?_
  intro j k ⟨hj,hpk⟩;have hkl:=hpk.1;refine go 3 ?_;refine dG 0 4 ?_;refine gS 0 19 (fun h19 p19=>?_) fun h19 p19=>?_
  ·have hjk:j<k.length:=oM;have hjk1:j-1<k.length:=oM;refine dG 4 2 ?_;refine d_t 6 rfl rfl (by kernel_rfl) rfl (fun _ m=>m.keeps (.refl _)) (a2L rfl rfl h19 (a0i he rfl rfl rfl (j) oM oM)) ?_;refine d_t 7 rfl rfl (by kernel_rfl) rfl (fun _ m=>m.keeps (.refl _)) (a2L rfl rfl h19 (a3Y m0 (Uk.append (a2H _) rest.uk) he rfl (j) oM (a6i hjk))) ?_;refine dG 8 2 ?_;refine d_t 10 rfl rfl (by kernel_rfl) rfl (fun _ m=>m.keeps (.refl _)) (a2L rfl rfl h19 (OV.cast (u:=.int .i64 ((j-1:Nat):Int)) (a1v rfl rfl ⟨oM,oM⟩) (congrArg (Value.int .i64) oM))) ?_;refine d_t 11 rfl rfl (by kernel_rfl) rfl (fun _ m=>m.keeps (.refl _)) (a2L rfl rfl h19 (a0i he rfl rfl rfl (j-1) oM oM)) ?_;refine d_t 12 rfl rfl (by kernel_rfl) rfl (fun _ m=>m.keeps (.refl _)) (a2L rfl rfl h19 (a3Y m0 (Uk.append (a2H _) rest.uk) he rfl (j-1) oM (a6i hjk1))) ?_;refine dH 13 0 ?_;refine a0z rfl rfl h19 (a0x (d3U _ _ _) rfl rfl ?_);refine dG 14 1 ?_;refine gC 2 (fun h30 p30=>?_) fun h30 p30=>?_
   ·refine go 4 ?_;refine ds1 ?_;refine dG 0 4 ?_;refine a0F 4 rfl rfl (by kernel_rfl) rfl (.cons _ .slnil) rfl (OV.cast (u:=.int .i64 ((j-1:Nat):Int)) (a1v rfl rfl ⟨oM,oM⟩) (congrArg (Value.int .i64) oM)) ?_;refine dG 5 2 ?_;refine a0F 7 rfl rfl (by kernel_rfl) rfl (.cons _ .slnil) rfl (OV.cast (u:=.int .i64 ((j-1:Nat):Int)) (a1v rfl rfl ⟨oM,oM⟩) (congrArg (Value.int .i64) oM)) ?_;refine a0F 8 rfl rfl (by kernel_rfl) rfl (.cons _ .slnil) rfl (a0i he rfl rfl rfl (j-1) oM oM) ?_;refine dG 10 2 ?_;refine a0F 12 rfl rfl (by kernel_rfl) rfl (.cons _ .slnil) rfl (a0i he rfl rfl rfl (j) oM oM) ?_;refine dT2 9 13 ?_ ?_
    ·refine a0k rfl (a3Y m0 (Uk.append (a2H _) rest.uk) he rfl (j-1) oM (a6i hjk1)) ?_;refine dH 13 0 ?_;refine a0k rfl (a3Y m0 (Uk.append (a2H _) rest.uk) he rfl (j) oM (a6i hjk)) ?_;refine go 1 ?_;refine a0F 14 rfl rfl (by kernel_rfl) rfl (.cons _ .slnil) rfl (a0i he rfl rfl rfl (j) oM oM) ?_;refine dH 15 0 ?_;refine a1Q _ (j) (by first|exact Uk.append (a2H _) rest.uk|exact (Uk.append (a2H _) rest.uk).set rfl _) he rfl rfl rfl rfl rfl oM (by simp[a4d];omega) ?_;refine go 1 ?_;refine a0F 16 rfl rfl (by kernel_rfl) rfl (.cons _ .slnil) rfl (a0i he rfl rfl rfl (j-1) oM oM) ?_;refine dH 17 0 ?_;refine a1Q _ (j-1) (by first|exact Uk.append (a2H _) rest.uk|exact (Uk.append (a2H _) rest.uk).set rfl _) he rfl rfl rfl rfl rfl oM (by simp[a4d];omega) ?_;refine go 6 ?_;refine o_v rfl (OV.cast (u:=.int .i64 ((j-1:Nat):Int)) (a1v rfl rfl ⟨oM,oM⟩) (congrArg (Value.int .i64) oM)) ?_;refine go 3 ?_;exact a0t (j-1) ((k.set j k[j-1]).set (j-1) k[j]) ⟨oM,hpk.swap hjk hjk1⟩ oM rfl sb (by first|rw[←c2D hjk hjk1] | rw[←b7E hjk hjk1 oM])
    ·refine a0k rfl (a3Y m0 (Uk.append (a2H _) rest.uk) he rfl (j) oM (a6i hjk)) ?_;refine dH 9 0 ?_;refine a0k rfl (a3Y m0 (Uk.append (a2H _) rest.uk) he rfl (j-1) oM (a6i hjk1)) ?_;refine go 1 ?_;refine a0F 14 rfl rfl (by kernel_rfl) rfl (.cons _ .slnil) rfl (a0i he rfl rfl rfl (j) oM oM) ?_;refine dH 15 0 ?_;refine a1Q _ (j) (by first|exact Uk.append (a2H _) rest.uk|exact (Uk.append (a2H _) rest.uk).set rfl _) he rfl rfl rfl rfl rfl oM (by simp[a4d];omega) ?_;refine go 1 ?_;refine a0F 16 rfl rfl (by kernel_rfl) rfl (.cons _ .slnil) rfl (a0i he rfl rfl rfl (j-1) oM oM) ?_;refine dH 17 0 ?_;refine a1Q _ (j-1) (by first|exact Uk.append (a2H _) rest.uk|exact (Uk.append (a2H _) rest.uk).set rfl _) he rfl rfl rfl rfl rfl oM (by simp[a4d];omega) ?_;refine go 6 ?_;refine o_v rfl (OV.cast (u:=.int .i64 ((j-1:Nat):Int)) (a1v rfl rfl ⟨oM,oM⟩) (congrArg (Value.int .i64) oM)) ?_;refine go 3 ?_;exact a0t (j-1) ((k.set j k[j-1]).set (j-1) k[j]) ⟨oM,hpk.swap hjk hjk1⟩ oM rfl sb (by first|rw[←c2D hjk hjk1] | rw[←b7E hjk hjk1 oM])
   ·refine go 12 ?_;exact a0t (i+1) (k) ⟨.inl oM,hpk⟩ oM rfl sb rfl
  ·refine dG 4 11 ?_;refine go 15 ?_;exact a0t (i+1) (k) ⟨.inl oM,hpk⟩ oM rfl sb rfl
 ·refine go 5 ?_;exact q_x ⟨rfl,m,hpm,rfl⟩
theorem d1P (I:IMap) {rest:Rst 1} {cap:Nat} (g:Nat) (l:List ByteArray) (hl2:l.length≤12) (hc:l.length+rest.l.length=cap) (hcm:cap≤maxLen) (z:Int) :
    FnX prog 180 #[.slice (some ⟨g,0,none⟩) l.length cap,.int .i64 0,.int .i64 ((l.length:Nat):Int),.int .i64 z] I [.blk g 9 (a2v l++rest.l).flatten] (fun u r=>u = .tuple #[]∧∃m,Pm l m∧r = .blk g 9 (a2v m++rest.l).flatten):=by
 refine enter func180 call180 rfl ntmps180 rfl fun w0=>?_;refine go 11 ?_
 refine a0w (α:=Nat) 0 (fun i=>I)
  (fun i=>[(0,.slice (some ⟨g,0,none⟩) l.length cap),(1,.int .i64 0),(2,.int .i64 ((l.length:Nat):Int))])
  (fun i=>[.blk g 9 (a2v l++rest.l).flatten])
  (fun i=>True)
  (fun i=>0) trivial rfl sb rfl ?_
 intro i _;refine go 5 ?_;refine o_v rfl (OV.cast (u:=.int .i64 ((l.length:Nat):Int)) (a1v rfl rfl ⟨oM,oM⟩) (congrArg (Value.int .i64) oM)) ?_;refine go 7 ?_;refine o_v rfl (OV.cast (u:=.bool true) (d0h rfl rfl) (congrArg Value.bool (decide_eq_true oM))) ?_;refine go 9 ?_;refine a1m (d1w _ g l hl2 hc hcm) rfl rfl fun v27 s27 q27=>?_;obtain⟨rfl,m,hpm,rfl⟩:=q27;refine go 8 ?_;exact q_x ⟨rfl,m,hpm,rfl⟩
theorem d3T (I:IMap) (n:Nat) (hn:n<200) :
    FnE prog 225 #[.int .u64 ((n:Nat):Int)] I (fun u=>∃k:Nat,u = .int .i64 (k:Int)):=by
 refine enter func225 call225 rfl ntmps225 rfl fun w0=>?_;refine go 9 ?_;refine o_v rfl (OV.cast (u:=.bool false) (c5Y rfl rfl) (congrArg Value.bool (decide_eq_false oM))) ?_;refine go 9 ?_;refine o_v rfl (OV.cast (u:=.bool false) (c5Y rfl rfl) (congrArg Value.bool (decide_eq_false oM))) ?_;refine go 9 ?_;refine o_v rfl (OV.cast (u:=.bool false) (c5Y rfl rfl) (congrArg Value.bool (decide_eq_false oM))) ?_;refine go 9 ?_;refine o_v rfl (a2d he he rfl (m:=((n:Nat):Int)) (c3o n oM)) ?_;refine o_v rfl (d0l he rfl rfl n rfl (Nat.lt_of_lt_of_le hn (by decide +kernel))) ?_;refine o_v rfl (a2d he he rfl (c7S _)) ?_;refine o_v rfl (a2T rfl rfl (c3P _)) ?_;refine go 5 ?_;exact q_e ⟨_,by rw[Int.zero_add]⟩
theorem b9F (I:IMap) (n:Nat) (hn:n<200) :
    FnE prog 181 #[.int .u64 ((n:Nat):Int)] I (fun u=>∃k:Nat,u = .int .i64 (k:Int)):=by
 refine enter func181 call181 rfl ntmps181 rfl fun w0=>?_;refine go 13 ?_;refine a2p (d3T _ n hn) rfl rfl fun v7 q7=>?_;obtain⟨k,rfl⟩:=q7;refine go 5 ?_;exact q_e ⟨_,rfl⟩
theorem c9D (I:IMap) {rest:Rst 1} {cap:Nat} (g:Nat) (l:List ByteArray) (hl2:l.length≤12) (hc:l.length+rest.l.length=cap) (hcm:cap≤maxLen) :
    FnX prog 129 #[.slice (some ⟨g,0,none⟩) l.length cap] I [.blk g 9 (a2v l++rest.l).flatten] (fun u r=>u = .tuple #[]∧∃m,Pm l m∧r = .blk g 9 (a2v m++rest.l).flatten):=by
 refine enter func129 call129 rfl ntmps129 rfl fun w0=>?_;refine go 11 ?_;refine o_v rfl (a2d he he rfl (m:=((l.length:Nat):Int)) (wrap_u64 _ oM oM)) ?_;refine go 1 ?_;refine a2p (b9F _ l.length oM) rfl rfl fun v9 q9=>?_;obtain⟨z,rfl⟩:=q9;refine go 1 ?_;refine a1m (d1P _ g l hl2 hc hcm z) rfl rfl fun v10 s10 q10=>?_;obtain⟨rfl,m,hpm,rfl⟩:=q10;refine go 2 ?_;exact q_x ⟨rfl,m,hpm,rfl⟩
theorem d1v (I:IMap) :
    FnV prog 215 #[.slice none 0 0,.int .i64 0,.int .i64 0] I (.tuple #[]):=by
 refine enter func215 call215 rfl ntmps215 rfl fun w0=>?_;refine go 3 ?_;refine o_v rfl (OV.cast (u:=.int .i64 ((1:Nat):Int)) (a2T rfl rfl ⟨oM,oM⟩) (congrArg (Value.int .i64) oM)) ?_;refine go 4 ?_
 refine a0w (α:=Nat) 0 (fun i=>I)
  (fun i=>[(2,.int .i64 0),(6,.int .i64 1)])
  (fun i=>[])
  (fun i=>True)
  (fun i=>0) trivial rfl sb rfl ?_
 intro i _;refine go 5 ?_;refine o_v rfl (OV.cast (u:=.bool false) (c6a rfl rfl) (congrArg Value.bool (decide_eq_false oM))) ?_;refine go 8 ?_;exact q_v rfl
theorem d1O (I:IMap) (z:Int) :
    FnV prog 180 #[.slice none 0 0,.int .i64 0,.int .i64 0,.int .i64 z] I (.tuple #[]):=by
 refine enter func180 call180 rfl ntmps180 rfl fun w0=>?_;refine go 11 ?_
 refine a0w (α:=Nat) 0 (fun i=>I)
  (fun i=>[(0,.slice none 0 0),(1,.int .i64 0),(2,.int .i64 0)])
  (fun i=>[])
  (fun i=>True)
  (fun i=>0) trivial rfl sb rfl ?_
 intro i _;refine go 5 ?_;refine o_v rfl (OV.cast (u:=.int .i64 0) (a1v rfl rfl ⟨oM,oM⟩) rfl) ?_;refine go 7 ?_;refine o_v rfl (OV.cast (u:=.bool true) (d0h rfl rfl) (congrArg Value.bool (decide_eq_true oM))) ?_;refine go 9 ?_;refine cV (d1v _) ?_;refine go 8 ?_;exact q_v rfl
theorem c5M (I:IMap) :
    FnV prog 129 #[.slice none 0 0] I (.tuple #[]):=by
 refine enter func129 call129 rfl ntmps129 rfl fun w0=>?_;refine go 11 ?_;refine o_v rfl (a2d he he rfl (m:=((0:Nat):Int)) (wrap_u64 _ oM oM)) ?_;refine go 1 ?_;refine a2p (b9F _ 0 oM) rfl rfl fun v9 q9=>?_;obtain⟨z,rfl⟩:=q9;refine go 1 ?_;refine cV (d1O _ z) ?_;refine go 2 ?_;exact q_v rfl
theorem b7B (I:IMap) (v:Value) (l:List ByteArray) (xs:List Value) (hF:Flat I xs l) (hl2:l.length≤12) :
  FnX prog 129 #[v] I [.row v 9 1 l.length xs] (fun u r=>u = .tuple #[]∧∃m ys,Pm l m∧Flat I ys m∧r = .row v 9 1 l.length ys):=by
 obtain⟨xss,rfl,hC⟩:=FlatC.of hF;refine FnX.of_rowV (args:=fun v=>[v]) hC.uk hC.len (fun h0 h1=>?_) fun g cap rest hv hR hc hcm=>?_
 ·obtain rfl:l=[]:=List.eq_nil_of_length_eq_zero h0;subst h1;refine (FnX.of_V (t:=9) (k:=1) (c5M I)).weak ?_;rintro u r ⟨rfl,rfl⟩;exact⟨rfl,[],[],Pm.refl _,.nil,rfl⟩
 ·subst hv;obtain rfl:=c2C hC;refine FnX.backE (k:=1) ((c9D I (rest:=⟨rest,hR⟩) g l hl2 hc hcm).weak ?_);rintro u r ⟨rfl,m,hpm,rfl⟩;exact⟨a2v m,rest,l.length,cap,a2H m,hR,by rw[a4d,hpm.1],hc,hcm,rfl,rfl,m,_,hpm,(a7J I m).flat,rfl⟩
theorem c9C (I:IMap) (v:Value) (l:List ByteArray) (xs:List Value) (hF:Flat I xs l) (hl:0<l.length) (hl2:l.length≤12) :
  FnX prog 129 #[v] I [.row v 9 1 l.length xs] (fun u r=>u = .tuple #[]∧∃m ys,Pm l m∧Flat I ys m∧r = .row v 9 1 l.length ys):=b7B I v l xs hF hl2
end Go.Proofs.YtkndpfncklhhlaaGreat
namespace Go.Proofs.YtkndpfncklhhlaaGreat
open Go Go.Sx Tryz
set_option linter.all false
set_option maxRecDepth 20000
set_option maxHeartbeats 4000000
instance:Has (a2A prog 117) ([.slice none 0 0],1,24):=hk
instance:Has (a9w prog 154) (117,1):=hk
instance:Has (prog.underlying 154) (.slice 117):=hk
instance:Has (a2r prog 117) [.slice none 0 0]:=hk
theorem d3M (I:IMap) (n:Nat) (hn:n≤1000000) :
    FnX prog 251 #[.slice none 0 0,.int .i64 ((n:Nat):Int)] I [] (fun u r=>r = .row u 9 1 0 []):=by
 refine enter func251 call251 rfl ntmps251 rfl fun w0=>?_;refine go 9 ?_;refine o_v rfl (OV.cast (u:=.bool false) (c6a rfl rfl) (congrArg Value.bool (decide_eq_false oM))) ?_;refine go 10 ?_;refine o_v rfl (c5W he rfl) ?_;refine go 3 ?_;refine o_v rfl (OV.cast (u:=.int .i64 ((n:Nat):Int)) (a1v rfl rfl ⟨oM,oM⟩) (congrArg (Value.int .i64) oM)) ?_;refine gC 9 (fun h16 p16=>?_) fun h16 p16=>?_
 ·refine go 3 ?_;refine o_v rfl (c5W he rfl) ?_;refine o_v rfl (a1y he rfl rfl 0 rfl oM) ?_;refine go 2 ?_;refine b2j he he he rfl rfl rfl rfl oM oM (by unfold maxLen;omega) rfl fun g22 r22 hr22=>?_;refine go 2 ?_;refine o_v rfl (a1y he rfl rfl 0 rfl oM) ?_;refine go 11 ?_;refine a2q (xss:=[]) (m:=0) (cap:=n+r22) (k:=1) (by intro c hc;cases hc) (Uk.rep rfl _) rfl (by simp) hr22 ?_;exact q_x rfl
 ·refine go 10 ?_;refine a0G 9 1 ?_;exact q_x rfl
theorem c7R (I:IMap) (v:Value) (ls:List (List ByteArray)) (hv:RdS I v ls) (hb:ls.flatten.length≤1000000) (hl:ls.length≤1000000) :
    FnX prog 227 #[v] I [] (fun u r=>∃xs,r = .row u 9 1 ls.flatten.length xs∧Flat I xs ls.flatten):=by
 obtain⟨A,c0,rfl,hA,hc,hm⟩:=hv;refine enter func227 call227 rfl ntmps227 rfl fun w0=>?_;refine go 19 ?_
 refine a0w (α:=Nat) 0 (fun i=>I)
  (fun i=>[(0,.slice A ls.length c0),(3,.int .i64 (((ls.take (i)).flatten.length:Nat):Int)),(9,.slice A ls.length c0),(10,.int .i64 ((ls.length:Nat):Int)),(11,.int .i64 ((i:Nat):Int))])
  (fun i=>[])
  (fun i=>i≤ls.length)
  (fun i=>ls.length-i) (Nat.zero_le _) rfl sb rfl ?_
 intro i hi;have hfi:=a6n ls i;refine gC 6 (fun h12 p12=>?_) fun h12 p12=>?_
 ·have hlt:i<ls.length:=oM;have hf1:=congrArg List.length (a6o hlt);rw[List.length_append]at hf1
  have hf2:=a6n ls (i+1);refine go 6 ?_;obtain⟨b13,o13,w13,e13,c13,r13⟩:=RdA.at_ hA (i:=i) oM;obtain⟨q13,rfl,S13,d13,rfl,hS13,hd13,hm13⟩:=r13;refine go 10 ?_;refine o_v rfl (OV.cast (u:=.int .i64 (((ls.take (i+1)).flatten.length:Nat):Int)) (a2T rfl rfl ⟨oM,oM⟩) (congrArg (Value.int .i64) oM)) ?_;refine go 6 ?_;refine o_v rfl (OV.cast (u:=.bool false) (c6a rfl rfl) (congrArg Value.bool (decide_eq_false oM))) ?_;refine go 11 ?_;exact a0s (i+1) oM oM rfl sb rfl
 ·have e:i=ls.length:=oM;subst e;rw[List.take_length];refine go 9 ?_;refine a3f (d3M _ ls.flatten.length hb) rfl rfl fun v24 s24 q24=>?_;obtain rfl:=q24;refine go 12 ?_
  refine a2B ((0:Nat)) (_) ([]) (fun i v6 xs=>I)
   (fun i v6 xs=>[(0,.slice A ls.length c0),(6,v6),(25,.slice A ls.length c0),(26,.int .i64 ((ls.length:Nat):Int)),(27,.int .i64 ((i:Nat):Int))])
   (fun i v6 xs=>[.row v6 9 1 (ls.take (i)).flatten.length xs])
   (fun i v6 xs=>i≤ls.length∧Flat I xs (ls.take i).flatten)
   (fun i v6 xs=>ls.length-i) ⟨Nat.zero_le _,.nil⟩ rfl sb rfl ?_
  intro i v6 xs ⟨hi,hF⟩;have hfi:=a6n ls i;refine gC 6 (fun h28 p28=>?_) fun h28 p28=>?_
  ·have hlt:i<ls.length:=oM;have hf1:=congrArg List.length (a6o hlt);rw[List.length_append]at hf1
   have hf2:=a6n ls (i+1);refine go 6 ?_;obtain⟨b29,o29,w29,e29,c29,r29⟩:=RdA.at_ hA (i:=i) oM;obtain⟨q29,rfl,S29,d29,rfl,hS29,hd29,hm29⟩:=r29;refine go 9 ?_;refine a0y (⟨_,_,rfl,hS29,hd29,hm29⟩) rfl he he rfl rfl rfl rfl oM oM rfl fun v33 x33 f33=>?_;refine go 9 ?_;exact a1r (i+1) (_) (_) ⟨oM,by rw[a6o hlt];exact hF.append f33⟩ oM rfl sb (by rw[a6o hlt,List.length_append])
  ·refine go 13 ?_;have e:i=ls.length:=oM;subst e;rw[List.take_length]at hF ⊢
   exact q_x ⟨xs,rfl,hF⟩
theorem b8a (I:IMap) {rest:Rst 1} {cap:Nat} (g:Nat) (l:List ByteArray) (hl:0<l.length) (hl2:l.length≤12) (hc:l.length+rest.l.length=cap) (hcm:cap≤maxLen) :
    FnX prog 228 #[.slice (some ⟨g,0,none⟩) l.length cap] I [.blk g 9 (a2v l++rest.l).flatten] (fun u r=>∃m rest2,(∀x,x∈m↔x∈l)∧m.length≤l.length∧u = .slice (some ⟨g,0,none⟩) m.length cap∧r = .blk g 9 (a2v m++rest2).flatten∧Uk 1 rest2∧m.length+rest2.length=cap):=by
 refine enter func228 call228 rfl ntmps228 rfl fun w0=>?_;refine gC 13 (fun h8 p8=>?_) fun h8 p8=>?_
 ·refine go 9 ?_;exact q_x ⟨l,rest.l,fun _=>Iff.rfl,Nat.le_refl _,rfl,rfl,rest.uk,hc⟩
 ·refine go 9 ?_
  refine a0w (α:=Nat) 1 (fun k0=>I)
   (fun k0=>[(0,.slice (some ⟨g,0,none⟩) l.length cap),(3,.int .i64 ((k0:Nat):Int))])
   (fun k0=>[.blk g 9 (a2v l++rest.l).flatten])
   (fun k0=>1≤k0∧k0≤l.length)
   (fun k0=>l.length-k0) ⟨Nat.le_refl _,hl⟩ rfl sb rfl ?_
  intro k0 ⟨hk1,hk2⟩;refine gC 9 (fun h13 p13=>?_) fun h13 p13=>?_
  ·have hkl:k0<l.length:=oM;have hkm:k0-1<l.length:=oM;refine go 6 ?_;refine dG 0 2 ?_;refine a0F 2 rfl rfl (by kernel_rfl) rfl (.refl _) rfl (a0i he rfl rfl rfl (k0) oM oM) ?_;refine a0F 3 rfl rfl (by kernel_rfl) rfl (.refl _) rfl (a3Y m0 (Uk.append (a2H _) rest.uk) he rfl (k0) oM (a6i hkl)) ?_;refine dG 4 2 ?_;refine a0F 6 rfl rfl (by kernel_rfl) rfl (.refl _) rfl (OV.cast (u:=.int .i64 ((k0-1:Nat):Int)) (a1v rfl rfl ⟨oM,oM⟩) (congrArg (Value.int .i64) oM)) ?_;refine a0F 7 rfl rfl (by kernel_rfl) rfl (.refl _) rfl (a0i he rfl rfl rfl (k0-1) oM oM) ?_;refine a0F 8 rfl rfl (by kernel_rfl) rfl (.refl _) rfl (a3Y m0 (Uk.append (a2H _) rest.uk) he rfl (k0-1) oM (a6i hkm)) ?_;refine dG 9 1 ?_;refine gC 2 (fun h25 p25=>?_) fun h25 p25=>?_
   ·have hst:Cpt l l k0 (k0+1):=Cpt.start hk1 hkl p25;refine go 4 ?_;refine o_v rfl (OV.cast (u:=.slice (some ⟨g,k0,none⟩) (l.length-k0) (cap-k0)) (a0K he rfl rfl k0 oM oM) (by rw[c3S,if_neg oM];simp[add_lit])) ?_;refine go 10 ?_
    refine a2B (1) (k0) (l) (fun q k B=>I)
     (fun q k B=>[(0,.slice (some ⟨g,0,none⟩) l.length cap),(3,.int .i64 ((k:Nat):Int)),(4,.slice (some ⟨g,k0,none⟩) (l.length-k0) (cap-k0)),(5,.int .i64 ((q:Nat):Int))])
     (fun q k B=>[.blk g 9 (a2v B++rest.l).flatten])
     (fun q k B=>1≤q∧1≤k∧Cpt l B k (k0+q))
     (fun q k B=>l.length-(k0+q)) ⟨Nat.le_refl _,hk1,hst⟩ rfl sb rfl ?_
    intro q k B ⟨hq,hk,hB⟩;have hBl:=hB.len;have hkp:=hB.kp;have hpl:=hB.pl;refine go 5 ?_;refine o_v rfl (OV.cast (u:=.int .i64 ((l.length-k0:Nat):Int)) (a6Y he rfl) rfl) ?_;refine gC 3 (fun h32 p32=>?_) fun h32 p32=>?_
    ·have hpq:k0+q<l.length:=oM;have hpB:k0+q<B.length:=oM;have hpm:k0+q-1<B.length:=oM;have hg1:=hB.get (j:=k0+q) oM hpq hpB;have hg2:=hB.get (j:=k0+q-1) oM oM hpm;refine go 6 ?_;refine dG 0 2 ?_;refine a0F 2 rfl rfl (by kernel_rfl) rfl (.refl _) rfl (a0i he rfl rfl rfl (q) oM oM) ?_;refine a0F 3 rfl rfl (by kernel_rfl) rfl (.refl _) rfl (a3Y m0 (Uk.append (a2H _) rest.uk) he rfl (k0+q) oM (a6i hpB)) ?_;refine dG 4 2 ?_;refine a0F 6 rfl rfl (by kernel_rfl) rfl (.refl _) rfl (OV.cast (u:=.int .i64 ((q-1:Nat):Int)) (a1v rfl rfl ⟨oM,oM⟩) (congrArg (Value.int .i64) oM)) ?_;refine a0F 7 rfl rfl (by kernel_rfl) rfl (.refl _) rfl (a0i he rfl rfl rfl (q-1) oM oM) ?_;refine a0F 8 rfl rfl (by kernel_rfl) rfl (.refl _) rfl (a3Y m0 (Uk.append (a2H _) rest.uk) he rfl (k0+q-1) oM (a6i hpm)) ?_;refine dG 9 1 ?_;refine gC 2 (fun h44 p44=>?_) fun h44 p44=>?_
     ·refine go 6 ?_;refine o_v rfl (a0i he rfl rfl rfl (q) oM oM) ?_;refine o_v rfl (a3Y m0 (Uk.append (a2H _) rest.uk) he rfl (k0+q) oM (a6i hpB)) ?_;refine o_v rfl (a0i he rfl rfl rfl (k) oM oM) ?_;refine go 1 ?_;refine a1Q _ (k) (Uk.append (a2H _) rest.uk) he rfl rfl rfl rfl rfl oM (by simp[a4d];omega) ?_;refine go 15 ?_;exact a1r (q+1) (k+1) (B.set k l[k0+q]) ⟨oM,oM,hB.keep hpq⟩ oM rfl sb (by rw[←hg1,←b0i oM])
     ·refine go 9 ?_;exact a1r (q+1) (k) (B) ⟨oM,hk,hB.skip hpq (by rw[←hg1,←hg2];simpa using h44) oM⟩ oM rfl sb rfl
    ·have hend:k0+q=l.length:=oM;have hdone:=fun x=>(hend▸hB).done x
     refine go 9 ?_;refine o_v rfl (OV.cast (u:=.slice (some ⟨g,k,none⟩) (l.length-k) (cap-k)) (a0K he rfl rfl k oM oM) (by rw[c3S,if_neg oM];simp[add_lit])) ?_;refine go 1 ?_;refine c1L k he he rfl rfl rfl rfl (Uk.append (a2H _) rest.uk) (fun _=>by rw[Nat.mul_one]) (by simp[a4d];omega) ?_;rw[c2B oM];refine go 6 ?_;refine o_v rfl (a1y he rfl rfl k oM oM) ?_;refine go 10 ?_;refine q_x ⟨B.take k,List.replicate (l.length-k) [.string ⟨#[]⟩]++rest.l,hdone,by rw[List.length_take];omega,?_,rfl,(Uk.rep rfl _).append rest.uk,by rw[List.length_take,List.length_append,List.length_replicate];omega⟩;rw[List.length_take,Nat.min_eq_left oM]
   ·refine go 9 ?_;exact a0s (k0+1) ⟨oM,oM⟩ oM rfl sb rfl
  ·refine go 13 ?_;exact q_x ⟨l,rest.l,fun _=>Iff.rfl,Nat.le_refl _,rfl,rfl,rest.uk,hc⟩
theorem b7Z (I:IMap) (v:Value) (l:List ByteArray) (xs:List Value) (hF:Flat I xs l) (hl:0<l.length) (hl2:l.length≤12) :
  FnX prog 228 #[v] I [.row v 9 1 l.length xs] (fun u r=>∃m ys,(∀x,x∈m↔x∈l)∧m.length≤l.length∧Flat I ys m∧r = .row u 9 1 m.length ys):=
 FnX.of_rowF (args:=fun v=>[v]) hF rfl rfl hl fun g cap rest xss hv hC hR hc hcm=>by
  subst hv;obtain rfl:=c2C hC;refine FnX.backE (k:=1) ((b8a I (rest:=⟨rest,hR⟩) g l hl hl2 hc hcm).weak ?_);rintro u r ⟨m,rest2,hm,hml,rfl,rfl,hR2,hc2⟩;exact⟨a2v m,rest2,m.length,cap,a2H m,hR2,a4d m,hc2,hcm,rfl,m,_,hm,hml,(a7J I m).flat,rfl⟩
theorem c8y (I:IMap) (v:Value) (ls:List (List ByteArray)) (hv:RdS I v ls) (hl:ls.length≤1000000) (h1:0<ls.flatten.length) (h2:ls.flatten.length≤12) :
    FnX prog 186 #[v] I [] (fun u r=>∃m ys,(∀x,x∈m↔x∈ls.flatten)∧m.length≤ls.flatten.length∧Flat I ys m∧r = .row u 9 1 m.length ys):=by
 refine enter func186 call186 rfl ntmps186 rfl fun w0=>?_;refine go 9 ?_;refine a3f (c7R _ v ls hv oM hl) rfl rfl fun v5 s5 q5=>?_;obtain⟨xs5,rfl,hF5⟩:=q5;refine go 7 ?_;refine a1m (c9C _ _ ls.flatten xs5 hF5 h1 h2) rfl rfl fun v7 s7 q7=>?_;obtain⟨rfl,m,ys,hpm,hFm,rfl⟩:=q7;rw[←hpm.1];refine go 6 ?_;refine a1m (b7Z _ _ m ys hFm (by rw[hpm.1];exact h1) (by rw[hpm.1];exact h2)) rfl rfl fun v9 s9 q9=>?_;obtain⟨m2,zs,hm2,hl2,hFz,rfl⟩:=q9;refine go 5 ?_;exact q_x ⟨m2,zs,fun x=>(hm2 x).trans (hpm.2 x),by have:=hpm.1;omega,hFz,rfl⟩
theorem c5B (I:IMap) (r:Rep) (S:Option Addr) (d:Nat) (hr:RdS I (.slice S r.options.length d) r.options) (hs:∀e∈r.options,SmE e) :
    FnI prog 137 #[.agg (r.cells (.slice S r.options.length d)).toArray] I (fun u J=>∃ns,RdS J u ns∧a5t r ns):=by
 have hSA:RdA I S r.options:=hr.toA;have hl5:=hr.lenLe;refine enter func137 call137 rfl ntmps137 rfl fun w0=>?_;refine go 4 fun g1=>?_
 refine go 8 ?_;refine cV (b2w _ r S d hr hs) ?_;refine gC 3 (fun h8 p8=>?_) fun h8 p8=>?_
 ·refine go 8 ?_;exact q_i ⟨[],RdS.nil',b1d (by simpa using h8)⟩
 ·have hvr:a0l r=true:=by simpa using h8
  have hvl:=a2K hvr;refine go 4 ?_;refine a0G 117 1 ?_;refine go 13 ?_;refine a0b ?_;refine a0a ?_
  refine a2C ((0:Nat)) (_) ([]) (I) (fun i v3 xs J=>J)
   (fun i v3 xs J=>[(3,v3),(10,.slice S r.options.length d),(11,.int .i64 ((r.options.length:Nat):Int)),(12,.int .i64 ((i:Nat):Int))])
   (fun i v3 xs J=>[.row v3 117 1 i xs])
   (fun i v3 xs J=>i≤r.options.length∧ILe I J∧Flat J xs ((r.options.take i).map a1H))
   (fun i v3 xs J=>r.options.length-i) ⟨Nat.zero_le _,ILe.refl _,.nil⟩ rfl sb rfl ?_
  intro i v3 xs J ⟨hi,hJ,hF⟩;have hSA:=hSA.le hJ;refine gC 6 (fun h13 p13=>?_) fun h13 p13=>?_
  ·have hlt:i<r.options.length:=oM;refine go 6 ?_;obtain⟨b14,o14,w14,e14,c14,r14⟩:=RdA.at_ hSA (i:=i) oM;obtain rfl:=r14;refine go 4 fun g5=>?_
   refine go 8 ?_;refine a0D (c8a _ r.options[i] (hs _ (List.getElem_mem hlt))) rfl rfl fun v18 I18 j18 q18=>?_;have q18s:=q18;obtain⟨A18,c18,rfl,_,_,_⟩:=q18;refine go 2 fun v19=>?_
   refine go 1 ?_;refine a0c ?_;refine a0o he he rfl rfl rfl rfl rfl oM oM rfl fun v20=>?_;refine go 9 ?_;refine a0b ?_;refine a0a ?_;refine a0b ?_;refine a0a ?_;exact a1k (i+1) (_) (_) (_) ⟨oM,hJ.trans j18,by rw[←a0e hlt,List.map_append];exact (hF.le j18).append (.one ⟨_,rfl,q18s⟩)⟩ oM rfl sb rfl
  ·have e:i=r.options.length:=oM;subst e;rw[List.take_length]at hF
   have hnf:=a7Y r.options (a3r hvr);refine go 7 ?_;refine a0d (l:=(r.options.map a1H)) rfl (by rw[List.length_map]) (hF) fun Ip jp Rp=>?_;refine go 2 ?_;refine a3f (c8y _ _ (r.options.map a1H) Rp (by rw[List.length_map];omega) oM oM) rfl rfl fun v23 s23 q23=>?_;obtain⟨m,ys,hm,hml,hFm,rfl⟩:=q23;refine a0d (l:=m) rfl rfl (hFm) fun Iq jq Rq=>?_;refine go 5 ?_;exact q_i ⟨m,Rq,b3q hvr hm hml⟩
end Go.Proofs.YtkndpfncklhhlaaGreat
set_option linter.all false
namespace Go.Sx
open Go
theorem c8l {c:List Kind} {l:List Rep} {ch:List Int} {n:Int} (h:c3t c l=false):a1G c l ch n=false:=by
 cases hg:a1G c l ch n with
 |false=>rfl
 |true=>
  obtain⟨_,h2⟩:=a2E hg
  have h1:a1a c=true:=by
   simp only[a1G,Bool.and_eq_true,Bool.not_eq_true',Bool.or_eq_false_iff,Bool.not_eq_false']at hg
   exact hg.1.1
  have h3:a2m (fun _ r=>a0l r) l l.length=true:=by
   rw[a2m,List.all_eq_true];intro i hi;have hi:=List.mem_range.1 hi
   simp only[List.getElem?_eq_getElem hi]
   exact h2 _ (List.getElem_mem hi)
  simp[c3t,h1,h3]at h
theorem b9P {r:Rep} (h:a0l r=true):1≤chs r:=by
 have:=a2K h
 simp only[chs,h,Bool.true_eq_false,if_false]
 split<;>omega
theorem b5T {f:Rep→Int→Bool} {l:List Rep} {ch:List Int} (h:∀i (h1:i<l.length) (h2:i<ch.length),f l[i] ch[i]=true) (hl:ch.length=l.length):a7a f l ch l.length=true:=by
 rw[a7a,List.all_eq_true];intro i hi;have hi:=List.mem_range.1 hi;rw[a2V hi oM];exact h i hi oM
theorem a8M {c:List Kind} {l:List Rep} {ch:List Int} {n:Int} (hc:a1a c=true) (hl:ch.length=l.length) (h:∀i (h1:i<l.length) (h2:i<ch.length),chs l[i]≠0∧n≤ch[i]∧ch[i]<chs l[i]):a1G c l ch n=true:=by
 simp only[a1G,hc,Bool.and_eq_true]
 refine⟨by simp[hl],b5T (fun i h1 h2=>?_) hl⟩;obtain⟨a,b,d⟩:=h i h1 h2
 simp only[a8l,Bool.not_eq_true',Bool.or_eq_false_iff,decide_eq_false_iff_not]
 omega
theorem a8L {c:List Kind} {l:List Rep} {ch:List Int} {n:Int} (h:a1G c l ch n=true) {i:Nat} (h1:i<l.length) (h2:i<ch.length):chs l[i]≠0∧n≤ch[i]∧ch[i]<chs l[i]:=by
 simp only[a1G,Bool.and_eq_true]at h
 have:=b1B h.2 h1 h1 h2
 simp only[a8l,Bool.not_eq_true',Bool.or_eq_false_iff,decide_eq_false_iff_not]at this
 omega
theorem b3c {c:List Kind} {l:List Rep} {ch:List Int} {n:Int} (h:a1G c l ch n=true):a1a c=true:=by
 simp only[a1G,Bool.and_eq_true,Bool.not_eq_true',Bool.or_eq_false_iff,Bool.not_eq_false']at h
 exact h.1.1
theorem c8P {ch:List Int} {a i:Nat} (h:i<(b5j ch a).length):(b5j ch a)[i]=if a.testBit i=true then -1 else ch[i]'(by simpa[b5j]using h):=by simp[b5j]
theorem given_open {c:List Kind} {l:List Rep} {ch:List Int} (h:a1G c l ch 0=true) (a:Nat):a1G c l (b5j ch a) (-1)=true:=by
 have hl:=(a2E h).1;refine a8M (b3c h) (by rw[b3z,hl]) fun i h1 h2=>?_
 have:=a8L h h1 (by rw[b3z]at h2;exact h2);rw[c8P]
 split<;>omega
theorem b0T {c:List Kind} {l:List Rep} {ch:List Int} (h:a1G c l ch 0=true):a1G c l ch (-1)=true:=by
 refine a8M (b3c h) (a2E h).1 fun i h1 h2=>?_
 have:=a8L h h1 h2
 omega
theorem a8R:∀(l:List Int) (a:Int),l.foldl (fun a d=>if d<a then d else a) a≤a∧∀d∈l,l.foldl (fun a d=>if d<a then d else a) a≤d
 | [],a=>⟨Int.le_refl _,fun d h=>by cases h⟩
 |x::r,a=>by
  obtain⟨h1,h2⟩:=a8R r (if x<a then x else a);rw[List.foldl_cons];refine⟨Int.le_trans h1 (by split<;>omega),fun d hd=>?_⟩
  rcases List.mem_cons.1 hd with rfl|hd
  ·exact Int.le_trans h1 (by split<;>omega)
  ·exact h2 d hd
theorem b6w:∀(l:List Int) (a m:Int),m≤a→(∀d∈l,m≤d)→m≤l.foldl (fun a d=>if d<a then d else a) a
 | [],a,m,h,_=>h
 |x::r,a,m,h,hl=>by
  rw[List.foldl_cons];exact b6w r _ m (by have:=hl x (by simp);split<;>omega) fun d hd=>hl d (by simp[hd])
theorem a8T {l:List Rep} {ch:List Int} (hl:ch.length=l.length) {d:Int}:d∈a1w l ch l.length↔∃i,∃(h1:i<l.length),∃(h2:i<ch.length),ch[i]<0∧∃e∈l[i].options,e.day=d:=by
 rw[a1w,List.mem_flatMap]
 constructor
 ·rintro⟨i,hi,hd⟩;have hi:=List.mem_range.1 hi;rw[a2V hi oM]at hd
  simp only[Option.getD_some]at hd
  split at hd
  ·rename_i hc
   obtain⟨e,he,rfl⟩:=List.mem_map.1 hd;exact⟨i,hi,oM,hc,e,he,rfl⟩
  ·cases hd
 ·rintro⟨i,h1,h2,hc,e,he,rfl⟩;refine⟨i,List.mem_range.2 h1,?_⟩;rw[a2V h1 h2]
  simp only[Option.getD_some,if_pos hc]
  exact List.mem_map.2 ⟨e,he,rfl⟩
theorem c4Z {L1 L2:Int} {l:List Rep} {ch1 ch2:List Int} {i:Nat} (h1:i<l.length) (h2:i<ch1.length) (h3:i<ch2.length) (h:a4b L1 l[i] ch1[i]=(a4b L2 l[i] ch2[i]).filter fun e=>decide (e.day<L1)) :
  pkd L1 l ch1 i=(pkd L2 l ch2 i).filter fun p=>decide (p.e.day<L1):=by
 unfold pkd;rw[a2V h1 h2,a2V h1 h3,h]
 cases hq:a4b L2 l[i] ch2[i]with
 |none=>rfl
 |some e=>
  simp only[Option.join_some,Option.filter_some]
  by_cases hd:e.day<L1
  ·simp only[hd,decide_true,if_true]
   split
   ·simp[Option.filter,hd]
   ·rfl
  ·simp only[hd,decide_false,Bool.false_eq_true,if_false]
   split
   ·simp[Option.filter,hd]
   ·rfl
theorem c2b {L1 L2:Int} {l:List Rep} {ch1 ch2:List Int} (hl1:ch1.length=l.length) (hl2:ch2.length=l.length) (h:∀i (h1:i<l.length) (h2:i<ch1.length) (h3:i<ch2.length),a4b L1 l[i] ch1[i]=(a4b L2 l[i] ch2[i]).filter fun e=>decide (e.day<L1)) :
  ∀n,n≤l.length→a2R L1 l ch1 n=(a2R L2 l ch2 n).filter fun p=>decide (p.e.day<L1):=by
 intro n
 induction n with
 |zero=>intro _;rfl
 |succ n ih=>
  intro hn;rw[a5k,a5k,List.filter_append,←ih oM,c4Z oM oM oM (h n oM oM oM)]
  congr 1
  cases pkd L2 l ch2 n with
  |none=>rfl
  |some p=>by_cases hp:p.e.day<L1<;>simp[Option.filter,hp]
theorem b4c {α:Type} [Day α] (L:Int):∀{l:List α},b4p l→l=l.filter (fun x=>decide (Day.day x<L))++l.filter (fun x=>!decide (Day.day x<L))
 | [],_=>rfl
 |x::r,h=>by
  have h':=List.pairwise_cons.1 h
  by_cases hx:Day.day x<L
  ·simp only[List.filter_cons,hx,decide_true,if_true,Bool.not_true,Bool.false_eq_true,if_false,List.cons_append]
   rw[←b4c L h'.2]
  ·have h0:r.filter (fun x=>decide (Day.day x<L))=[]:=by
    rw[List.filter_eq_nil_iff];intro y hy;have:=h'.1 y hy
    simp;omega
   have h1:r.filter (fun x=>!decide (Day.day x<L))=r:=by
    rw[List.filter_eq_self];intro y hy;have:=h'.1 y hy
    simp;omega
   simp[List.filter_cons,hx,h0,h1]
theorem b4S {c:List Kind} {l:List Rep} {ch1 ch2:List Int} {L1 L2:Int} (h:a2R L1 l ch1 l.length=(a2R L2 l ch2 l.length).filter fun p=>decide (p.e.day<L1)) (hf:(a4s c l ch1 L1).2≠0):(a4s c l ch2 L2).2≠0:=by
 unfold a4s at hf ⊢
 have e1:a0Q (a2R L1 l ch1 l.length)=(a0Q (a2R L2 l ch2 l.length)).filter (fun p=>decide (Day.day p<L1)):=by
  rw[h,b1r];rfl
 have e2:=b4c L1 (a5n (a2R L2 l ch2 l.length));rw[e2,←e1,b0S]
 have e3:a6e c [] ((a0Q (a2R L1 l ch1 l.length)).map Pkd.e)=none:=by
  have:=a9C c (a0Q (a2R L1 l ch1 l.length)) [];rw[decide_eq_false hf]at this
  cases hr:a6e c [] ((a0Q (a2R L1 l ch1 l.length)).map Pkd.e) with
  |none=>rfl
  |some s=>rw[hr]at this;cases this
 rw[e3];exact hf
theorem b6U {L:Int} {r:Rep} {k:Int} {e:Evt} (h:a4b L r k=some e):e∈r.options:=by
 unfold a4b at h
 split at h
 ·split at h
  ·rename_i x hx
   split at h
   ·cases h;exact List.mem_of_getElem? hx
   ·cases h
  ·cases h
 ·cases h
theorem c4S {L1 L2:Int} (hL:L1≤L2) (r:Rep) (k:Int):a4b L1 r k=(a4b L2 r k).filter fun e=>decide (e.day<L1):=by
 unfold a4b
 split
 ·cases r.options[k.toNat]? with
  |none=>rfl
  |some e=>
   simp only
   by_cases h:e.day<L1
   ·rw[if_pos h,if_pos oM];simp[Option.filter,h]
   ·rw[if_neg h]
    split
    ·simp[Option.filter,h]
    ·rfl
 ·rfl
theorem c4a {c:List Kind} {l:List Rep} {ch:List Int} (hg:a1G c l ch 0=true):a7m c l ch = !isF c l ch:=by
 have hl:=(a2E hg).1
 have h0:a1w l ch l.length=[]:=by
  rw[List.eq_nil_iff_forall_not_mem];intro d hd;obtain⟨i,h1,h2,hc,_⟩:=(a8T hl).1 hd;have:=a8L hg h1 h2
  omega
 rw[a7m,if_neg (by rw[b0T hg];decide),isF,a8o,if_neg (by rw[hg];decide),h0]
 rfl
end Go.Sx
set_option linter.all false
namespace Go.Sx
open Go
def c1Y (day:Int) (l:List Rep) (ch:List Int):List Evt:=(l.zip ch).filterMap fun p=>a4b day p.1 p.2
theorem b8O (day:Int) (l:List Rep) (ch:List Int) (hl:ch.length=l.length) (hv:∀r∈l,a0l r=true):∀n,n≤l.length→(a2R day l ch n).map Pkd.e=((l.zip ch).take n).filterMap fun p=>a4b day p.1 p.2:=by
 intro n
 induction n with
 |zero=>intro _;rfl
 |succ n ih=>
  intro hn;have h1:n<l.length:=oM;have h2:n<ch.length:=oM;have h3:n<(l.zip ch).length:=by simp;omega
  rw[a5k,List.map_append,ih oM,←a0e h3,List.filterMap_append]
  congr 1
  have e:(l.zip ch)[n]=(l[n],ch[n]):=by simp
  rw[e,pkd,a2V h1 h2]
  cases hq:a4b day l[n] ch[n]with
  |none=>simp[hq]
  |some x=>
   have hd:=a8g (a3r (hv _ (List.getElem_mem h1)) x (b6U hq))
   simp[hq,hd]
theorem b6X {day:Int} {l:List Rep} {ch:List Int} (hl:ch.length=l.length) (hv:∀r∈l,a0l r=true):(a2R day l ch l.length).map Pkd.e=c1Y day l ch:=by
 rw[b8O day l ch hl hv l.length (Nat.le_refl _),c1Y,List.take_of_length_le (by simp;omega)]
theorem c0K {c:List Kind} {l:List Rep} {ch:List Int} {day:Int} (hl:ch.length=l.length) (hv:∀r∈l,a0l r=true):decide ((a4s c l ch day).2=0)=(a6e c [] (a0Q (c1Y day l ch))).isSome:=by
 rw[a4s,a9C,b4b Pkd.e (fun _=>rfl),b6X hl hv]
theorem d3O {c:List Kind} {l:List Rep} {ch:List Int} (hg:a1G c l ch 0=true):isF c l ch=(a6e c [] (a0Q (c1Y 40001 l ch))).isSome:=by
 obtain⟨hl,hv⟩:=a2E hg;rw[isF,a8o,if_neg (by rw[hg];decide),c0K hl hv]
theorem d3P {c:List Kind} {l:List Rep} {ch:List Int} (hg:a1G c l ch 0=false):isF c l ch=false:=by
 rw[isF,a8o,if_pos hg];rfl
end Go.Sx
set_option linter.all false
namespace Go.Sx
open Go
def a2g:List Rep→List (List Int)
 | []=>[[]]
 |r::l=>(List.range (chs r).toNat).flatMap fun (k:Nat)=>(a2g l).map fun t=>(k:Int)::t
def a4i (c:List Kind) (l:List Rep):List (List Int):=(a2g l).filter (isF c l)
theorem a9g:∀{l:List Rep} {t:List Int},t∈a2g l↔t.length=l.length∧∀i (h1:i<l.length) (h2:i<t.length),0≤t[i]∧t[i]<chs l[i]
 | [],t=>by
  simp only[a2g,List.mem_singleton,List.length_nil]
  constructor
  ·rintro rfl;exact⟨rfl,fun i h=>absurd h (Nat.not_lt_zero i)⟩
  ·rintro⟨h,_⟩;exact List.eq_nil_of_length_eq_zero h
 |r::l,t=>by
  simp only[a2g,List.mem_flatMap,List.mem_range,List.mem_map]
  constructor
  ·rintro⟨k,hk,s,hs,rfl⟩;obtain⟨h1,h2⟩:=a9g.1 hs;refine⟨by simp[h1],fun i h3 h4=>?_⟩
   cases i with
   |zero=>simp only[List.getElem_cons_zero];omega
   |succ i=>simpa using h2 i (by simpa using h3) (by simpa using h4)
  ·rintro⟨h1,h2⟩
   cases t with
   |nil=>simp at h1
   |cons x s=>
    have h0:=h2 0 (by simp) (by simp)
    simp only[List.getElem_cons_zero]at h0
    refine⟨x.toNat,oM,s,a9g.2 ⟨by simpa using h1,fun i h3 h4=>?_⟩,by rw[Int.toNat_of_nonneg h0.1]⟩;exact h2 (i+1) (by simpa using h3) (by simpa using h4)
theorem b8e {c:List Kind} {l:List Rep} {ch1 ch2:List Int} (g1:a1G c l ch1 (-1)=true) (g2:a1G c l ch2 (-1)=true) (hs:∀i (h1:i<ch1.length) (h2:i<ch2.length),ch1[i]=ch2[i]∨ch1[i]<0) (h:a7m c l ch1=true):a7m c l ch2=true:=by
 have la:=(a2E g1).1;have lb:=(a2E g2).1;unfold a7m at h ⊢
 rw[if_neg (by rw[g1];decide)]at h
 rw[if_neg (by rw[g2];decide)]
 simp only[Bool.not_eq_true',decide_eq_false_iff_not]at h ⊢
 have hL:a5c (a1w l ch1 l.length)≤a5c (a1w l ch2 l.length):=by
  refine b6w _ _ _ (a8R _ _).1 fun d hd=>?_
  refine (a8R _ _).2 d ?_;rw[a8T lb]at hd
  obtain⟨i,h1,h2,hc,e,he,rfl⟩:=hd;refine (a8T la).2 ⟨i,h1,oM,?_,e,he,rfl⟩
  rcases hs i oM h2 with h3|h3
  ·rw[h3];exact hc
  ·exact h3
 refine b4S (c2b la lb (fun i h1 h2 h3=>?_) _ (Nat.le_refl _)) h
 rcases hs i h2 h3 with h4|h4
 ·rw[h4];exact c4S hL _ _
 ·have e1:a4b (a5c (a1w l ch1 l.length)) l[i] ch1[i]=none:=by unfold a4b;rw[if_neg oM]
  rw[e1]
  cases hq:a4b (a5c (a1w l ch2 l.length)) l[i] ch2[i]with
  |none=>rfl
  |some e=>
   have h5:a5c (a1w l ch1 l.length)≤e.day:=(a8R _ _).2 _ ((a8T la).2 ⟨i,h1,h2,h4,e,b6U hq,rfl⟩);have h6:¬e.day<a5c (a1w l ch1 l.length):=oM
   simp[Option.filter,h6]
def a2M (rs:List Rep):List Int:=rs.map fun r=>if 1<chs r then -1 else 0
def b2x (c:List Kind) (l:List Rep) (pre:List Int) (rs:List Rep):List (List Int):=((a2g rs).map (pre ++ ·)).filter (isF c l)
theorem b5A (c:List Kind) (l:List Rep) (pre:List Int):b2x c l pre []=if isF c l pre=true then [pre] else []:=by
 simp only[b2x,a2g,List.map_cons,List.map_nil,List.append_nil,List.filter_cons,List.filter_nil]
theorem b2y (c:List Kind) (l:List Rep) (pre:List Int) (r:Rep) (rs:List Rep):b2x c l pre (r::rs)=(List.range (chs r).toNat).flatMap fun (k:Nat)=>b2x c l (pre++[(k:Int)]) rs:=by
 simp only[b2x,a2g,List.map_flatMap,List.filter_flatMap,List.map_map]
 congr 1
 funext k
 congr 2
 funext t
 simp
theorem c9o {c:List Kind} {l:List Rep} {pre:List Int} {r:Rep} {rs:List Rep} (h:chs r=1):b2x c l pre (r::rs)=b2x c l (pre++[0]) rs:=by
 rw[b2y,h];simp
theorem c4t (c:List Kind) (l:List Rep):a4i c l=b2x c l [] l:=by
 simp[a4i,b2x]
structure Mid (c:List Kind) (l:List Rep) (pre:List Int) (rs:List Rep):Prop where
 cat:a1a c=true
 pos:∀r∈l,chs r≠0
 is:∃a,l=a++rs∧pre.length=a.length∧∀i (h1:i<a.length) (h2:i<pre.length),0≤pre[i]∧pre[i]<chs a[i]
theorem b6b (r:Rep):0≤chs r:=by
 unfold chs;split
 ·omega
 ·split<;>omega
theorem c1A {c:List Kind} {l:List Rep} (hc:a1a c=true) (hp:∀r∈l,chs r≠0):Mid c l [] l:=⟨hc,hp,[],rfl,rfl,fun i h=>absurd h (Nat.not_lt_zero i)⟩
theorem Mid.next {c:List Kind} {l:List Rep} {pre:List Int} {r:Rep} {rs:List Rep} (h:Mid c l pre (r::rs)) {k:Int} (h0:0≤k) (hk:k<chs r):Mid c l (pre++[k]) rs:=by
 obtain⟨a,e1,e2,e3⟩:=h.is;refine⟨h.cat,h.pos,a++[r],by rw[e1];simp,by simp[e2],fun i h1 h2=>?_⟩
 by_cases hi:i<a.length
 ·rw[List.getElem_append_left hi,List.getElem_append_left oM];exact e3 i hi oM
 ·have:i=a.length:=by simp at h1;omega
  subst this
  simp[←e2,h0,hk]
theorem Mid.len {c:List Kind} {l:List Rep} {pre:List Int} {rs:List Rep} (h:Mid c l pre rs):pre.length+rs.length=l.length:=by
 obtain⟨a,e1,e2,_⟩:=h.is;rw[e1,List.length_append,e2]
theorem Mid.given {c:List Kind} {l:List Rep} {pre:List Int} {rs:List Rep} (h:Mid c l pre rs) {t:List Int} (ht:t.length=rs.length) {n:Int} (hn:n≤0) (hb:∀i (h1:i<rs.length) (h2:i<t.length),n≤t[i]∧t[i]<chs rs[i]):a1G c l (pre++t) n=true:=by
 obtain⟨a,e1,e2,e3⟩:=h.is;refine a8M h.cat (by rw[List.length_append,ht];exact h.len) fun i h1 h2=>?_
 refine⟨h.pos _ (List.getElem_mem h1),?_⟩;subst e1
 by_cases hi:i<a.length
 ·rw[List.getElem_append_left hi,List.getElem_append_left oM];have:=e3 i hi oM
  omega
 ·rw[List.length_append]at h1
  rw[List.getElem_append_right oM,List.getElem_append_right oM];have:=hb (i-a.length) oM oM
  simpa[e2]using this
theorem Mid.given_open {c:List Kind} {l:List Rep} {pre:List Int} {rs:List Rep} (h:Mid c l pre rs):a1G c l (pre++a2M rs) (-1)=true:=by
 refine h.given (by simp[a2M]) oM fun i h1 h2=>?_
 have hp:=h.pos rs[i] (by obtain⟨a,e1,_⟩:=h.is;rw[e1];exact List.mem_append_right _ (List.getElem_mem h1));have:=b6b rs[i]
 simp only[a2M,List.getElem_map]
 split<;>omega
theorem c2q {c:List Kind} {l:List Rep} {pre:List Int} {rs:List Rep} (h:Mid c l pre rs) (hf:a7m c l (pre++a2M rs)=true):b2x c l pre rs=[]:=by
 rw[b2x,List.filter_eq_nil_iff];intro x hx;obtain⟨t,ht,rfl⟩:=List.mem_map.1 hx;obtain⟨h1,h2⟩:=a9g.1 ht;have g0:a1G c l (pre++t) 0=true:=h.given h1 (Int.le_refl _) h2;have g1:=b0T g0;have hl:=(a2E h.given_open).1
 have:=b8e h.given_open g1 (fun i h3 h4=>by
  by_cases hi:i<pre.length
  ·left;rw[List.getElem_append_left hi,List.getElem_append_left hi]
  ·rw[List.getElem_append_right oM,List.getElem_append_right oM];have h5:i-pre.length<rs.length:=by simp[a2M]at h3;omega
   have:=h2 (i-pre.length) h5 oM
   simp only[a2M,List.getElem_map]
   split
   ·right;omega
   ·left;omega) hf
 rw[c4a g0]at this
 simpa using this
end Go.Sx
set_option linter.all false
namespace Go.Sx
open Go
def c3s (l:List Rep):Nat:=(l.filter fun r=>decide (1<chs r)).length
def a7U (c:List Kind) (l:List Rep):Int:=if a1a c=false then 1 else if l.any (fun r=>decide (chs r=0))=true then 1 else if (30:Int)<(c3s l:Nat) then 7 else 0
def a1Y (c:List Kind) (l:List Rep) (most:Int):List (List Int)×Int:=
 if (decide (most<1)||decide (4096<most))=true then ([],1) else if a7U c l≠0 then ([],a7U c l) else if (a4i c l).take most.toNat=[] then ([],21) else ((a4i c l).take most.toNat,0)
theorem b6g {c:List Kind} {l:List Rep} (h:a7U c l=0):a1a c=true∧∀r∈l,chs r≠0:=by
 unfold a7U at h
 split at h
 ·cases h
 ·rename_i hc
  split at h
  ·cases h
  ·rename_i ha
   exact⟨by simpa using hc,fun r hr h0=>ha (List.any_eq_true.2 ⟨r,hr,by simp[h0]⟩)⟩
def b0t:List Rep→Nat
 | []=>1
 |r::l=>(chs r).toNat * b0t l
theorem b4r:∀l:List Rep,(a2g l).length=b0t l
 | []=>rfl
 |r::l=>by
  rw[a2g,List.length_flatMap,b0t]
  simp only[List.length_map,b4r l]
  rw[List.map_const',List.sum_replicate_nat,List.length_range]
theorem c6t {c:List Kind} {l:List Rep} {most:Int} (h1:1≤most) (h2:most≤4096) (he:a7U c l=0):a1Y c l most=if (a4i c l).take most.toNat=[] then ([],21) else ((a4i c l).take most.toNat,0):=by
 unfold a1Y;rw[if_neg (by simp;omega),if_neg (by simp[he])]
theorem c7o {c:List Kind} {l:List Rep} {most:Int} (h1:1≤most) (h2:most≤4096) (he:a7U c l≠0):a1Y c l most=([],a7U c l):=by
 unfold a1Y;rw[if_neg (by simp;omega),if_pos he]
theorem b1C {c:List Kind} {l:List Rep} {most:Int} (h1:1≤most) (h2:most≤4096):(a1Y c l most).2=if a7U c l≠0 then a7U c l else if a4i c l=[] then 21 else 0:=by
 by_cases he:a7U c l=0
 ·rw[c6t h1 h2 he,if_neg (show ¬(a7U c l≠0) by simp[he])]
  have:(a4i c l).take most.toNat=[]↔a4i c l=[]:=by
   rw[List.take_eq_nil_iff]
   constructor
   ·rintro (h|h)
    ·omega
    ·exact h
   ·exact .inr
  by_cases hh:a4i c l=[]
  ·rw[if_pos (this.2 hh),if_pos hh]
  ·rw[if_neg (fun h=>hh (this.1 h)),if_neg hh]
 ·rw[c7o h1 h2 he,if_pos he]
theorem c3B {c:List Kind} {l:List Rep} {most:Int} (h1:1≤most) (h2:most≤4096) (he:a7U c l=0):(a1Y c l most).1=(a4i c l).take most.toNat:=by
 rw[c6t h1 h2 he]
 split
 ·rename_i h;exact h.symm
 ·rfl
end Go.Sx
set_option linter.all false
namespace Go.Sx
open Go
def d0y (P:Program) (o:Oper) (Q:Exit→Act→World→Prop):Exit→Act→World→Prop
 |.normal,a,w=>∃d,(execOp a.eval o).run P w = .ok (.defer d) w∧Q .normal { a with defers:=d::a.defers } w
 |e,a,w=>Q e a w
theorem c3n {P:Program} {ops:Array Oper} {Q:Exit→Act→World→Prop} {o:Oper} (hn:o.dst=none) (hg:o.guard=none):∀(l:List Oper) (a:Act) (w:World),wpL P ops (d0y P o Q) l a w→wpListIn (fen none) 0 P ops Q (l++[o]) a w
 | [],a,w,h=>by
  obtain⟨d,h1,h2⟩:∃d,(execOp a.eval o).run P w = .ok (.defer d) w∧Q .normal { a with defers:=d::a.defers } w:=h
  show wpListIn (fen none) 0 P ops Q [o] a w
  unfold wpListIn;rw[if_pos (by simp[Region.wanted,hg])];refine⟨fun _ _=>trivial,?_⟩;have e:Oper.semAt (fen none).round a.eval o=execOp a.eval o:=rfl;rw[e,h1]
  show wpListIn (fen none) 0 P ops Q [] (Act.put { a with defers:=d::a.defers } o.dst undef) w
  rw[hn];exact h2
 |o'::rest,a,w,h=>by
  have h:one P ops (d0y P o Q) o' (wpL P ops (d0y P o Q) rest) a w:=h;have h:one P ops Q o' (wpListIn (fen none) 0 P ops Q (rest++[o])) a w:=b2k (fun a w h=>c3n hn hg rest a w h) h;unfold one at h
  show wpListIn (fen none) 0 P ops Q (o'::(rest++[o])) a w
  unfold wpListIn
  split
  ·rename_i hw;rw[if_pos hw]at h;exact b5Q h
  ·rename_i hw;rw[if_neg hw]at h;exact⟨fun _ _=>trivial,h⟩
structure FnDf (P:Program) (f:FuncId) (args:Array Value) (I:IMap) (H:List Res) (post:IMap→List Res→Prop):Prop where
 go:∀w,Mem ⟨a2e H,I,w⟩ I H w→CallsDIn Fence.wide 0 P f args .returning w fun e u w'=>u = .returning∧∃v I' H',e = .returned v∧Mem ⟨a2e H,I,w⟩ I' H' w'∧post I' H'
section
variable {P:Program} {ρ:Option Nat} {n:Sz} {E:Ent} {I:IMap} {L:LL} {H:List Res} {Q:Exit→Act→World→Prop} {ops:Array Oper}
variable {ty:Nat} {pos:String} {af:Array Edge} {fo:Operand} {as_:List Operand} {ats:Array TypeId} {f:FuncId}
theorem b7X {id:Nat} {o1 o2:Oper} (hn:o2.dst=none) (hg:o2.guard=none) (h:SX n E I L H (wpL P [o1,o2].toArray (d0y P o2 Q) [o1])):SX n E I L H ((Code.region id [o1,o2].toArray false).wq none P Q):=
 fun a w s m=>wpIn_region_lit (c3n (l:=[o1]) hn hg _ _ (h a w s m))
theorem d2k {fs cs:Array Value} {vs:List Value} (hf:ev L fo=some (.func (.func f) fs cs)) (ha:evs L as_=some vs)
  (h:SX ⟨n.sz,.f { target:=.fn (.func f) cs,args:=fs++vs.toArray } :: n.D⟩ E I L H (Q .normal)):SX n E I L H (d0y P ⟨none,.defer { callee:=.value fo,args:=as_.toArray,argTypes:=ats },ty,pos,af,none⟩ Q .normal):=fun a w s m=>by
 refine⟨_,?_,h { a with defers:=_ } w ⟨s.size,by show _::a.defers=_;rw[s.defers];rfl,s.get⟩ m⟩;have e:=a6m s as_ vs ha
 simp only[execOp,resolve,s.ev hf]
 simp[Deferred.ofValue,e,go_sem]
 rfl
theorem b7g {k:Nat} {D:List Mk} {fn:Func} {R:Ending→World→Prop} {Hc H0:List Res} {args cap:Array Value} {post:IMap→List Res→Prop} (hcall:∀(args:Array Value) (w:World),(callFunc f args).run P w = .ok (.enter f args) w)
  (hc:FnDf P f (args++cap) I Hc post) (kk:∀I' H',ILe I I'→post I' H'→SX ⟨k,D⟩ E I' L (H'++H0) (b2K P fn R .ret)) :
  SX ⟨k,.f { target:=.fn (.func f) cap,args:=args } :: D⟩ E I L (Hc++H0) (b2K P fn R .ret):=fun a w s m=>by
 show LeavesInM Fence.wide 0 P fn a.tmps R a.defers .returning w
 rw[s.defers];refine⟨by simp,.inr ⟨fun h=>by simp[Fence.wide]at h,.func f,cap,f,args++cap,rfl,?_,fun _ _=>trivial,CallsDIn.mono (hc.go w m.call) ?_⟩⟩
 ·simp[invoke,go_sem,hcall,Mk.of]
 ·rintro e u w' ⟨rfl,v,I',H',rfl,hm,hp⟩;have:=kk I' H' hm.mono hp { a with defers:=(Sz.mk k D).marks } w' ⟨s.size,rfl,s.get⟩ (m.back hm);exact this
def d4o (P:Program) (fn:Func) (R:Ending→World→Prop):Exit→Act→World→Prop:=bodyPost P fn R
theorem d1h {fn:Func} {c:Code} {args:List Value} {k:Nat} {post:IMap→List Res→Prop} (hf:P.funcs[f]? = some fn) (hb:fn.body=some c) (hn:fn.ntmps=k)
  (hl:Nat.ble args.length k=true) (h:∀w,SX ⟨k,[]⟩ ⟨a2e H,I,w⟩ I (b1E args 0) H (c.wq none P (d4o P fn (a8F ⟨a2e H,I,w⟩ fun _ I' H'=>post I' H')))):FnDf P f args.toArray I H post:=by
 refine⟨fun w m=>?_⟩;refine CallsDIn.mono (callsDIn_of_wp (F:=Fence.wide) hf hb trivial (h w _ _ ⟨?_,rfl,?_⟩ m)) ?_
 ·simp only[List.size_toArray,Array.size_append,Array.size_replicate,hn]
  have:args.length≤k:=by simpa using hl
  omega
 ·intro i v hv;obtain⟨_,h2⟩:=b0X args 0 i v hv
  have hlt:i<args.length:=by
   rcases Nat.lt_or_ge i args.length with h|h
   ·exact h
   ·simp[List.getElem?_eq_none h]at h2
  rw[Array.getElem?_append_left (by simpa using hlt)]
  simpa using h2
 ·rintro e u w' ⟨rfl,v,I',H',rfl,hm,hp⟩;exact⟨rfl,v,I',H',rfl,hm,hp⟩
theorem d3J {k:Nat} {fn:Func} {R:Ending→World→Prop} (hf:fn.results=#[]) (h:SX ⟨k,[]⟩ E I L H fun _ w=>R (.returned (.tuple #[])) w):SX ⟨k,[]⟩ E I L H (d4o P fn R .normal):=fun a w s m=>
 ⟨by rw[s.defers];rfl,_,d4g hf a w,h a w s m⟩
end
end Go.Sx
set_option linter.all false
namespace Go.Sx
open Go
section
variable {P:Program} {ρ:Option Nat} {n:Sz} {E:Ent} {I:IMap} {L:LL} {H:List Res} {Q:Exit→Act→World→Prop} {ops:Array Oper} {K:Act→World→Prop}
variable {d ty:Nat} {pos:String} {af:Array Edge} {fo:Operand} {as_:List Operand} {ats:Array TypeId} {f:FuncId} {args:List Value} {g t:Nat} {cs:List Value} {w:World}
theorem b6x (mm:Mem E I H w) (hm:Res.blk g t cs∈H):ILe I (I.pub g (.cells cs.toArray t (0,0))):=IMap.pub_le _ (mm.priv _ hm g rfl).1
theorem b0V:ICells (I.pub g (.cells cs.toArray t (0,0))) g 0 cs:=fun j u hu=>⟨_,t,(0,0),IMap.pub_same _ _ _,by rw[Nat.zero_add];simpa using hu⟩
theorem b6y (mm:Mem E I H w) (hm:Res.blk g t cs∈H):Mem ⟨[],I.pub g (.cells cs.toArray t (0,0)),w⟩ (I.pub g (.cells cs.toArray t (0,0))) [] w:=
 ⟨Upd.refl _ _,fun b o hb=>by
  have hg:w.heap[g]? = some (.cells cs.toArray t (0,0)):=mm.holds _ hm;unfold IMap.pub at hb
  split at hb
  ·rename_i e;subst e;cases hb;exact hg
  ·exact mm.con b o hb,ILe.refl _,fun b hb=>.inl hb,fun _ h=>(by cases h),fun _ h=>(by cases h),List.nodup_nil⟩
theorem c1M {v:Value} (hm:Res.blk g t cs∈H) (hc:∀I2,ILe I I2→ICells I2 g 0 cs→FnI P f args.toArray I2 fun u _=>u=v) (h:a1z L fo as_=some (f,args)) (hd:Nat.blt d n.sz=true)
  (kk:SX n E I ((d,v)::L) H K):SX n E I L H (one P ops Q ⟨some d,.call { callee:=.value fo,args:=as_.toArray,argTypes:=ats },ty,pos,af,none⟩ K):=by
 intro a w s mm;have h1:=(hc _ (b6x mm hm) b0V).go w (b6y mm hm);unfold one;rw[if_pos (by rfl)];refine a7O ?_;unfold After at h1 ⊢
 rw[a7H s h ⟨some d,.call { callee:=.value fo,args:=as_.toArray,argTypes:=ats },ty,pos,af,none⟩ rfl (ats:=ats)]
 have key:∀e w'',a8F ⟨[],(I.pub g (.cells cs.toArray t (0,0))),w⟩ (fun u I' H'=>u=v∧H'=[]) e w''→(match e with | .returned v=>K (a.put (some d) v) w''|_=>False):=by
  rintro e w'' ⟨u,I',H',rfl,hm',rfl,rfl⟩;exact kk _ _ (s.put hd) (mm.other hm'.upd.os hm'.upd.tape hm'.upd.output hm'.upd.size (fun k hk=>hm'.upd.block k hk (by simp)))
 split at h1
 ·rename_i v w' hr;exact key _ _ h1
 ·rename_i f' args' w' hr;exact Calls.mono h1 key
 ·rename_i l f' tmps assign body w' hr;exact RoundIn.mono h1 key
 ·exact h1.elim
theorem c8M {p:Value→Res→Prop} (hm:Res.blk g t cs∈H) (hc:∀I2,ILe I I2→ICells I2 g 0 cs→FnX P f args.toArray I2 [] p) (h:a1z L fo as_=some (f,args)) (hd:Nat.blt d n.sz=true)
  (kk:∀u r,p u r→SX n E I ((d,u)::L) (r::H) K):SX n E I L H (one P ops Q ⟨some d,.call { callee:=.value fo,args:=as_.toArray,argTypes:=ats },ty,pos,af,none⟩ K):=by
 intro a w s mm;have h1:=(hc _ (b6x mm hm) b0V).go w (b6y mm hm);unfold one;rw[if_pos (by rfl)];refine a7O ?_;unfold After at h1 ⊢
 rw[a7H s h ⟨some d,.call { callee:=.value fo,args:=as_.toArray,argTypes:=ats },ty,pos,af,none⟩ rfl (ats:=ats)]
 have key:∀e w'',a8F ⟨[],(I.pub g (.cells cs.toArray t (0,0))),w⟩ (fun u I' H'=>I'=(I.pub g (.cells cs.toArray t (0,0)))∧∃r,H'=[r]∧p u r) e w''→(match e with | .returned v=>K (a.put (some d) v) w''|_=>False):=by
  rintro e w'' ⟨u,I',H',rfl,hm',rfl,r,rfl,hp⟩;refine kk u r hp _ _ (s.put hd) (mm.new hm'.upd.os hm'.upd.tape hm'.upd.output hm'.upd.size (fun k hk=>hm'.upd.block k hk (by simp)) (hm'.holds r (List.mem_cons_self ..)) fun b hb=>?_)
  rcases (hm'.priv r (List.mem_cons_self ..) b hb).2 with h|h
  ·exact h
  ·cases h
 split at h1
 ·rename_i v w' hr;exact key _ _ h1
 ·rename_i f' args' w' hr;exact Calls.mono h1 key
 ·rename_i l f' tmps assign body w' hr;exact RoundIn.mono h1 key
 ·exact h1.elim
theorem c8K {r0:Res} {Hc:List Res} {post:Value→IMap→List Res→Prop} (hc:FnH P f args.toArray I Hc post) (h:a1z L fo as_=some (f,args)) (hd:Nat.blt d n.sz=true)
  (k:∀u I' H',ILe I I'→post u I' H'→SX n E I' ((d,u)::L) (r0::H') K) :
  SX n E I L (r0::Hc) (one P ops Q ⟨some d,.call { callee:=.value fo,args:=as_.toArray,argTypes:=ats },ty,pos,af,none⟩ K):=by
 refine a4e (H':=Hc++[r0]) (by simpa using List.perm_append_comm (l₁:=[r0]) (l₂:=Hc)) ?_;refine a3E (Hc:=Hc) (H0:=[r0]) hc h hd fun u I' H' hI hp=>?_
 exact a4e (H':=r0::H') (by simpa using List.perm_append_comm (l₁:=H') (l₂:=[r0])) (k u I' H' hI hp)
theorem c1K {Hc:List Res} {post:Value→IMap→List Res→Prop} (hc:FnH P f args.toArray I Hc post) (h:a1z L fo as_=some (f,args)) (hd:Nat.blt d n.sz=true)
  (k:∀u I' H',ILe I I'→post u I' H'→SX n E I' ((d,u)::L) H' K) :
  SX n E I L Hc (one P ops Q ⟨some d,.call { callee:=.value fo,args:=as_.toArray,argTypes:=ats },ty,pos,af,none⟩ K):=by
 refine a4e (H':=Hc++[]) (by simp) ?_;refine a3E (Hc:=Hc) (H0:=[]) hc h hd fun u I' H' hI hp=>?_
 exact a4e (H':=H') (by simp) (k u I' H' hI hp)
end
section
variable {P:Program} {n:Sz} {E:Ent} {I:IMap} {L:LL} {H:List Res} {K:Act→World→Prop}
theorem b9Z {ρ:Option Nat} {Q:Exit→Act→World→Prop} {l:List Oper} {r1 r2:Res} {id:Nat} (hm:P.follows .mixedOrders=true)
  (h:SX n E I L (r1::r2::H) (a1u P l.toArray (NQ Q) (a1l E I [r1,r2]) l.length (Array.replicate l.length false))):SX n E I L (r1::r2::H) ((Code.region id l.toArray true).wq ρ P Q):=b1N [r1,r2] hm h
theorem a2x {g t:Nat} {cs:List Value} (cs2:List Value) (e:cs=cs2) (h:SX n E I L (.blk g t cs2::H) K):SX n E I L (.blk g t cs::H) K:=e▸h
theorem b7F {a:Res} (h:SX n E I L (a::H) K):SX n E I L ([a]++H) K:=h
theorem b7G {a b:Res} (h:SX n E I L (a::b::H) K):SX n E I L ([a,b]++H) K:=h
end
def a2W (ch:List Int):List Value:=ch.map ci
theorem a9H (ch:List Int):(a2W ch).length=ch.length:=by simp[a2W]
theorem c4x {ch:List Int} {i:Nat} (h:i<ch.length):(a2W ch)[i]? = some (ci ch[i]):=by simp[a2W,h]
theorem a9I (ch:List Int) (i:Nat) (x:Int):(a2W ch).set i (ci x)=a2W (ch.set i x):=by simp[a2W,List.map_set]
theorem c4y {I:IMap} {g:Nat} {ch:List Int} (h:ICells I g 0 (a2W ch)) (hl:ch.length≤9223372036854775807):RdS I (.slice (some ⟨g,0,none⟩) ch.length ch.length) ch:=by
 refine⟨some ⟨g,0,none⟩,ch.length,rfl,fun hp=>⟨g,0,rfl,fun i x hi=>⟨[ci x],fun j u hu=>?_,rfl⟩⟩,Nat.le_refl _,hl⟩;have h1:(a2W ch)[i]? = some (ci x):=by simp[a2W,hi]
 cases j with
 |zero=>
  have e:u=ci x:=by simpa using hu.symm
  subst e;have:=h i _ h1;have e2:0+i * Enc.k Int+0=0+i:=by show 0+i * 1+0=0+i;omega
  rw[e2];exact this
 |succ j=>simp at hu
theorem b3k (n:Nat):(List.replicate n [ci 0]).flatten=a2W (List.replicate n 0):=by
 induction n with
 |zero=>rfl
 |succ n ih=>rw[List.replicate_succ,List.flatten_cons,ih];rfl
theorem a6p {I:IMap} (ch:List Int):Flat I (a2W ch) ch:=by
 induction ch with
 |nil=>exact .nil
 |cons x r ih=>exact .cons rfl ih
theorem c0A {I:IMap} {xs:List Value} {l:List Int} (h:Flat I xs l):xs=a2W l:=by
 induction h with
 |nil=>rfl
 |cons h1 _ ih=>rw[ih];rw[show _=_ from h1];rfl
section
variable {P:Program} {ρ:Option Nat} {n:Sz} {E:Ent} {I I':IMap} {L:LL} {H H0:List Res} {Q:Exit→Act→World→Prop} {ops:Array Oper} {K:Act→World→Prop}
variable {d ty:Nat} {pos:String} {af:Array Edge} {fo:Operand} {as_:List Operand} {ats:Array TypeId} {f:FuncId} {args:List Value}
theorem b6M {post:Value→IMap→List Res→Prop} (hc:FnH P f args.toArray I [] post) (h:a1z L fo as_=some (f,args)) (hd:Nat.blt d n.sz=true)
  (k:∀v I' H',ILe I I'→post v I' H'→SX n E I' ((d,v)::L) (H'++H0) K) :
  SX n E I L H0 (one P ops Q ⟨some d,.call { callee:=.value fo,args:=as_.toArray,argTypes:=ats },ty,pos,af,none⟩ K):=a3E (Hc:=[]) hc h hd k
end
end Go.Sx
set_option linter.all false
namespace Go.Sx
open Go
theorem a7s {I:IMap} {g n:Nat} {ch:List Int} (h:ICells I g 0 (a2W ch)) (e:ch.length=n) (hl:n≤1000000):RdS I (.slice (some ⟨g,0,none⟩) n n) ch:=by
 subst e;exact c4y h oM
section
variable {c:List Kind} {l:List Rep} {pre:List Int} {r:Rep} {rs:List Rep}
theorem Mid.get (h:Mid c l pre (r::rs)):∃hp:pre.length<l.length,l[pre.length]=r:=by
 obtain⟨a,e1,e2,_⟩:=h.is;refine⟨by rw[e1,e2];simp,?_⟩;subst e1
 simp[e2]
theorem Mid.more (h:Mid c l pre rs) (hp:pre.length<l.length):∃r rs',rs=r::rs':=by
 cases rs with
 |nil=>have:=h.len;simp at this;omega
 |cons r rs'=>exact⟨r,rs',rfl⟩
theorem Mid.full (h:Mid c l pre rs) (hp:¬pre.length<l.length):rs=[]:=by
 have:=h.len;exact List.eq_nil_of_length_eq_zero oM
theorem Mid.pos1 (h:Mid c l pre (r::rs)):chs r≠0:=h.pos r (by obtain⟨a,e1,_⟩:=h.is;rw[e1];simp)
theorem b6T {ch:List Int} (he:pre++a2M (r::rs)=ch) (hp:pre.length<ch.length):ch[pre.length]=if 1<chs r then -1 else 0:=by
 subst he;simp[a2M]
theorem b2l:(a2M rs).length=rs.length:=by simp[a2M]
theorem Mid.chlen (h:Mid c l pre rs) {ch:List Int} (he:pre++a2M rs=ch):ch.length=l.length:=by
 rw[←he,List.length_append,b2l];exact h.len
theorem c1Q (h1:¬1<chs r):(pre++[0])++a2M rs=pre++a2M (r::rs):=by
 simp[a2M,h1]
theorem a7B {ch:List Int} (he:pre++a2M (r::rs)=ch) (k:Int):ch.set pre.length k=(pre++[k])++a2M rs:=by
 subst he;rw[List.set_append_right _ _ (Nat.le_refl _),Nat.sub_self]
 simp[a2M]
theorem b7y {ch:List Int} {p:Nat} (hp:p<ch.length) (h:ch[p] = -1) (z:Int):(ch.set p z).set p (-1)=ch:=by
 rw[List.set_set,←h,List.set_getElem_self]
theorem c5K {ch:List Int} {p:Nat} (hp:p<ch.length):ch=ch.set p ch[p]:=by rw[List.set_getElem_self]
theorem c4n {α:Type} (f:Nat→List α) (done:List α) {k K:Nat} (h:k<K) {x:List α} (hx:x <+: (done++(List.range k).flatMap f)++f k):x <+: done++(List.range K).flatMap f:=by
 refine hx.trans ?_;have e:(done++(List.range k).flatMap f)++f k=done++(List.range (k+1)).flatMap f:=by rw[List.range_succ,List.flatMap_append];simp
 rw[e];refine (List.prefix_append_right_inj _).2 ?_
 have e2:List.range K=List.range (k+1)++(List.range (K-(k+1))).map (k+1 + ·):=by
  rw[←List.range_add];congr 1;omega
 rw[e2,List.flatMap_append];exact List.prefix_append _ _
theorem c0B {α:Type} (f:Nat→List α) (done:List α) (k:Nat):(done++(List.range k).flatMap f)++f k=done++(List.range (k+1)).flatMap f:=by
 rw[List.range_succ,List.flatMap_append];simp
end
theorem b1M (r:Rep):chs r≤5:=by
 unfold chs
 split
 ·omega
 ·rename_i h
  have:=a2K (r:=r) (by simpa using h)
  split<;>omega
def b1z (c:List Kind) (l:List Rep) (J:Bool→List (List Int)→IMap→List Res→Prop) (g t:Nat) (ch:List Int) (pre:List Int) (rs:List Rep) (done:List (List Int)) (u:Value) (I:IMap) (H:List Res):Prop:=
 ∃b dn Hc,u = .bool b∧H = .blk g t (a2W ch)::Hc∧J b dn I Hc∧(b=true→dn=done++b2x c l pre rs)∧(b=false→dn <+: done++b2x c l pre rs)
theorem a8K {l:List Rep} {i:Nat} (h:i<l.length):c3s (l.take (i+1))=c3s (l.take i)+if 1<chs l[i] then 1 else 0:=by
 rw[←a0e h,c3s,List.filter_append,List.length_append,c3s]
 by_cases hc:1<chs l[i]<;>simp[hc]
theorem c0i {c:List Kind} {l:List Rep} {i:Nat} (hc:a1a c=true) (h:i<l.length) (h0:chs l[i]=0):a7U c l=1:=by
 unfold a7U;rw[if_neg (by rw[hc];decide),if_pos (List.any_eq_true.2 ⟨_,List.getElem_mem h,by simp[h0]⟩)]
theorem c0j {c:List Kind} {l:List Rep} (hc:a1a c=false):a7U c l=1:=by unfold a7U;rw[if_pos hc]
theorem b1P {c:List Kind} {l:List Rep} (hc:a1a c=true) (hp:∀r∈l,chs r≠0):a7U c l=if (30:Int)<(c3s l:Nat) then 7 else 0:=by
 unfold a7U;rw[if_neg (by rw[hc];decide),if_neg (by rw[List.any_eq_true];rintro⟨r,hr,h0⟩;exact hp r hr (by simpa using h0))]
theorem a8V {l:List Rep} {i:Nat} (h:i<l.length) (hp:∀r∈l.take i,chs r≠0) (h0:chs l[i]≠0):∀r∈l.take (i+1),chs r≠0:=fun r hr=>by
 rw[←a0e h]at hr
 rcases List.mem_append.1 hr with hr|hr
 ·exact hp r hr
 ·obtain rfl:=List.mem_singleton.1 hr;exact h0
def a4a (l:List Rep) (i:Nat):List Int:=a2M (l.take i)++List.replicate (l.length-i) 0
theorem b8G (l:List Rep) {i:Nat} (h:i≤l.length):(a4a l i).length=l.length:=by
 simp[a4a,b2l];omega
theorem a9T {l:List Rep} {i:Nat} (h:i<l.length):a4a l (i+1)=if 1<chs l[i] then (a4a l i).set i (-1) else a4a l i:=by
 have e:(a2M (l.take i)).length=i:=by rw[b2l,List.length_take];omega
 have e2:List.replicate (l.length-i) (0:Int)=0::List.replicate (l.length-(i+1)) 0:=by
  rw[show l.length-i=(l.length-(i+1))+1 from oM,List.replicate_succ]
 have e3:a2M (l.take i++[l[i]])=a2M (l.take i)++[if 1<chs l[i] then -1 else 0]:=by simp only[a2M,List.map_append,List.map_cons,List.map_nil]
 unfold a4a;rw[←a0e h,e3,List.append_assoc]
 by_cases hc:1<chs l[i]
 ·rw[if_pos hc,if_pos hc,List.set_append_right _ _ oM,e,Nat.sub_self,e2];rfl
 ·rw[if_neg hc,if_neg hc,e2];rfl
theorem b5k (l:List Rep):a4a l l.length=a2M l:=by simp[a4a]
end Go.Sx
namespace Go.Proofs.YtkndpfncklhhlaaGreat
open Go Go.Sx Tryz
set_option linter.all false
set_option maxRecDepth 20000
set_option maxHeartbeats 4000000
instance:Has (a2A prog 3) ([.int .i64 0],1,8):=hk
instance:Has (tyK prog 200) (false,1):=hk
instance:Has (tyK prog 201) (false,1):=hk
theorem c2w (I:IMap) (vc:Value) (c:List Kind) (hvc:RdS I vc c) (hsc:SmC c) (v:Value) (l:List Rep) (hv:RdS I v l) (hl:l.length≤1000000) (hsl:∀r∈l,∀e∈r.options,SmE e)  :
    FnV prog 88 #[.agg #[vc],v] I (.int .i64 (a7U c l)):=by
 obtain⟨A,c0,rfl,hA,hc,hm⟩:=hv;refine enter func88 call88 rfl ntmps88 rfl fun w0=>?_;refine go 4 fun g2=>?_
 refine go 8 ?_;refine cV (a8H _ vc c hvc hsc) ?_;refine gC 3 (fun h11 p11=>?_) fun h11 p11=>?_
 ·refine go 8 ?_;exact q_v (congrArg (Value.int .i64) (c0j (by simpa using h11)).symm)
 ·have hC:a1a c=true:=by simpa using h11
  refine go 16 ?_;refine a0a ?_
  refine a0w (α:=Nat) 0 (fun i=>I)
   (fun i=>[(5,.int .i64 ((c3s (l.take i):Nat):Int)),(12,.slice A l.length c0),(13,.int .i64 ((l.length:Nat):Int)),(14,.int .i64 ((i:Nat):Int))])
   (fun i=>[])
   (fun i=>i≤l.length∧∀r∈l.take i,chs r≠0)
   (fun i=>l.length-i) ⟨Nat.zero_le _,fun r hr=>by simp at hr⟩ rfl sb rfl ?_
  intro i ⟨hi,hp⟩;have hdi:c3s (l.take i)≤(l.take i).length:=List.length_filter_le _ _;rw[List.length_take]at hdi
  refine gC 6 (fun h15 p15=>?_) fun h15 p15=>?_
  ·have hlt:i<l.length:=oM;refine go 6 ?_;obtain⟨b16,o16,w16,e16,c16,r16⟩:=RdA.at_ hA (i:=i) oM;obtain⟨q16,rfl,S16,d16,rfl,hS16,hd16,hm16⟩:=r16;refine go 4 fun g7=>?_
   refine go 8 ?_;refine cV (a5l _ l[i] S16 d16 ⟨_,_,rfl,hS16,hd16,hm16⟩ (hsl _ (List.getElem_mem hlt))) ?_;refine gC 11 (fun h20 p20=>?_) fun h20 p20=>?_
   ·refine go 13 ?_;exact q_v (congrArg (Value.int .i64) (c0i hC hlt (by simpa using h20)).symm)
   ·refine gC 7 (fun h23 p23=>?_) fun h23 p23=>?_
    ·refine go 13 ?_;refine a0a ?_;exact a0s (i+1) ⟨oM,a8V hlt hp (by simpa using h20)⟩ oM rfl ⟨(congrArg (fun z=>some (Value.int .i64 z)) (by rw[a8K hlt,if_pos oM];omega)),rfl,rfl,rfl,trivial⟩ rfl
    ·refine go 9 ?_;refine a0a ?_;exact a0s (i+1) ⟨oM,a8V hlt hp (by simpa using h20)⟩ oM rfl ⟨(congrArg (fun z=>some (Value.int .i64 z)) (by rw[a8K hlt,if_neg oM];omega)),rfl,rfl,rfl,trivial⟩ rfl
  ·have e:i=l.length:=oM;subst e;rw[List.take_length]at hp hdi
   rw[List.take_length];refine gC 12 (fun h30 p30=>?_) fun h30 p30=>?_
   ·refine go 8 ?_;exact q_v (congrArg (Value.int .i64) (by rw[b1P hC hp,if_pos p30]))
   ·refine go 9 ?_;exact q_v (congrArg (Value.int .i64) (by rw[b1P hC hp,if_neg p30]))
theorem c7T (I:IMap) (v:Value) (l:List Int) (hv:RdS I v l) (hl:l.length≤1000000) :
    FnX prog 143 #[v] I [] (fun u r=>r = .row u 3 1 l.length (a2W l)):=by
 refine enter func143 call143 rfl ntmps143 rfl fun w0=>?_;refine go 9 fun v3=>?_
 refine go 2 ?_;refine a0y (hv) rfl he he rfl rfl rfl rfl oM oM rfl fun v5 x5 f5=>?_;refine go 5 ?_;refine b7I (ys:=x5) rfl ?_;rw[Nat.zero_add,c0A f5];exact q_x rfl
theorem c6Y (I:IMap) (g3 g6 gc n:Nat) (k3:ICells I g3 0 [.slice (some ⟨gc,0,none⟩) n n]) (ch:List Int) (p:Nat) (hp:p<ch.length) (hn:ch.length=n) :
    FnDf prog 144 #[.pointer (some ⟨g3,0,none⟩),.pointer (some ⟨g6,0,none⟩)] I [.blk gc 3 (a2W ch),.blk g6 3 [.int .i64 ((p:Nat):Int)]] (fun I2 H2=>I2=I∧H2=[.blk gc 3 (a2W (ch.set p (-1))),.blk g6 3 [.int .i64 ((p:Nat):Int)]]):=by
 refine d1h func144 rfl ntmps144 rfl fun w0=>?_;refine go 1 ?_;refine o_v rfl (a1X he rfl (k3 0 _ rfl)) ?_;refine go 1 ?_;refine o_v rfl (a0i he rfl rfl rfl (p) oM oM) ?_;refine go 1 ?_;refine a5A he rfl rfl rfl (by rw[a9H,Nat.blt_eq];omega) ?_;refine a2x (a2W (ch.set (p) (-1))) (by rw[Nat.zero_add,Nat.mul_one,a9I]) ?_;refine go 1 ?_;refine d3J rfl ?_;exact a4N (fun _ m=>m) ⟨rfl,rfl⟩
theorem d2C (I:IMap) (g1 g2 g3 g4 g5 gc:Nat) (vc:Value) (c:List Kind) (hvc:RdS I vc c) (hsc:SmC c) (l:List Rep) (A:Option Addr) (c0:Nat) (hv:RdS I (.slice A l.length c0) l) (hl:l.length≤1000000) (hsl:∀r∈l,∀e∈r.options,SmE e) (ly:Nat) (J:Bool→List (List Int)→IMap→List Res→Prop) (hJm:c3x J) (hY:a6L prog ly (fun I vs (x:List Int)=>∃v,vs=[v]∧RdS I v x) (fun _ _=>True) J) (k1:ICells I g1 0 [vc]) (k2:ICells I g2 0 [.slice A l.length c0]) (k3:ICells I g3 0 [.slice (some ⟨gc,0,none⟩) l.length l.length]) (k4:ICells I g4 0 [.func (.yield ly) #[] #[]]) (k5:ICells I g5 0 [.func (.func 140) #[] #[.pointer (some ⟨g1,0,none⟩),.pointer (some ⟨g2,0,none⟩),.pointer (some ⟨g3,0,none⟩),.pointer (some ⟨g4,0,none⟩),.pointer (some ⟨g5,0,none⟩)]]) (rs:List Rep) (ih:∀(I2:IMap),ILe I I2→∀(pr:List Int) (rr:List Rep),rr.length<rs.length→Mid c l pr rr→∀(dn:List (List Int)) (Hq:List Res),J true dn I2 Hq→FnH prog 140 #[.int .i64 ((pr.length:Nat):Int),.pointer (some ⟨g1,0,none⟩),.pointer (some ⟨g2,0,none⟩),.pointer (some ⟨g3,0,none⟩),.pointer (some ⟨g4,0,none⟩),.pointer (some ⟨g5,0,none⟩)] I2 (.blk gc 3 (a2W (pr++a2M rr))::Hq) (b1z c l J gc 3 (pr++a2M rr) pr rr dn)) (pre:List Int) (hmid:Mid c l pre rs) (ch:List Int) (hch:pre++a2M rs=ch) (done:List (List Int)) (Hc:List Res) (hJt:J true done I Hc) :
    FnH prog 140 #[.int .i64 ((pre.length:Nat):Int),.pointer (some ⟨g1,0,none⟩),.pointer (some ⟨g2,0,none⟩),.pointer (some ⟨g3,0,none⟩),.pointer (some ⟨g4,0,none⟩),.pointer (some ⟨g5,0,none⟩)] I (.blk gc 3 (a2W ch)::Hc) (b1z c l J gc 3 ch pre rs done):=by
 have hv0:=hv;have hA:=hv.toA;have hcl:=hmid.chlen hch;refine enter func140 call140 rfl ntmps140 rfl fun w0=>?_;refine go 4 fun g6=>?_
 refine go 6 ?_;refine o_v rfl (a2P he rfl k1 rfl) ?_;refine o_v rfl (a1X he rfl (k2 0 _ rfl)) ?_;refine o_v rfl (a1X he rfl (k3 0 _ rfl)) ?_;refine go 1 ?_;refine c1M m1 (fun I2 hI hC=>c8p I2 vc c (hvc.le hI) hsc _ l (hv0.le hI) hl hsl _ ch (a7s hC hcl hl)) rfl rfl ?_;refine gC 2 (fun h12 p12=>?_) fun h12 p12=>?_
 ·refine go 8 ?_;refine a0a ?_;exact a4N (fun _ m=>m) ⟨true,done,_,rfl,rfl,hJt,fun _=>by rw[c2q hmid (by rw[hch];exact h12),List.append_nil],fun h=>(by cases h)⟩
 ·refine go 3 ?_;refine a9s (Ix:=(fun pr rr=>I)) (Lx:=(fun pr rr=>[(1,.pointer (some ⟨g1,0,none⟩)),(2,.pointer (some ⟨g2,0,none⟩)),(3,.pointer (some ⟨g3,0,none⟩)),(4,.pointer (some ⟨g4,0,none⟩)),(5,.pointer (some ⟨g5,0,none⟩)),(6,.pointer (some ⟨g6,0,none⟩))])) (Hx:=(fun pr rr=>.blk gc 3 (a2W ch) :: .blk g6 3 [.int .i64 ((pr.length:Nat):Int)]::Hc)) (p:=(fun pr rr=>Mid c l pr rr∧pr++a2M rr=ch∧b2x c l pre rs=b2x c l pr rr∧rr.length≤rs.length∧∀q0 q1,rr=q0::q1→1<chs q0)) ?_ ?_
  ·refine go 1 ?_;refine a0b ?_
   refine a1i (pre) (rs) (fun pr rr=>I)
    (fun pr rr=>[(1,.pointer (some ⟨g1,0,none⟩)),(2,.pointer (some ⟨g2,0,none⟩)),(3,.pointer (some ⟨g3,0,none⟩)),(4,.pointer (some ⟨g4,0,none⟩)),(5,.pointer (some ⟨g5,0,none⟩)),(6,.pointer (some ⟨g6,0,none⟩))])
    (fun pr rr=>.blk gc 3 (a2W ch) :: .blk g6 3 [.int .i64 ((pr.length:Nat):Int)]::Hc)
    (fun pr rr=>Mid c l pr rr∧pr++a2M rr=ch∧b2x c l pre rs=b2x c l pr rr∧rr.length≤rs.length)
    (fun pr rr=>rr.length) ⟨hmid,hch,rfl,Nat.le_refl _⟩ rfl sb rfl ?_
   intro pr rr ⟨hm,hee,hr,hle⟩;have hml:=hm.len;have hcl:=hm.chlen hee;refine go 4 ?_;refine o_v rfl (a1X he rfl (k2 0 _ rfl)) ?_;refine gS 3 17 (fun h17 p17=>?_) fun h17 p17=>?_
   ·obtain⟨q0,q1,rfl⟩:=hm.more oM;have hop:=b6T hee oM;have hp1:=hm.pos1;have hnn:=b6b q0;refine a0P (a0z rfl rfl h17 (a0k rfl (a1X he rfl (k3 0 _ rfl)) ?_));refine go 1 ?_;refine a0P (a0z rfl rfl h17 (a0k rfl (a0i he rfl rfl rfl (pr.length) oM oM) ?_));refine a0P (a0z rfl rfl h17 (a0k rfl (OV.cast (u:=.int .i64 (if 1<chs q0 then -1 else 0)) (b0v m0 he rfl (by rw[Nat.zero_add,Nat.mul_one];exact c4x oM)) (congrArg (Value.int .i64) hop)) ?_));refine gC 4 (fun h23 p23=>?_) fun h23 p23=>?_
    ·have h1c:chs q0=1:=by
       by_cases h1:1<chs q0
       · rw[if_pos h1]at p23;omega
       · omega
     refine go 7 ?_;refine a0b ?_;refine go 4 ?_;refine a0b ?_;exact a0t (pr++[0]) (q1) ⟨hm.next (r:=q0) (Int.le_refl _) oM,by rw[c1Q (r:=q0) oM];exact hee,by rw[hr,c9o h1c],by simp at hle;omega⟩ (by simp) rfl sb (by rw[List.length_append];rfl)
    ·have h1c:1<chs q0:=by
       by_cases h1:1<chs q0
       · exact h1
       · rw[if_neg h1]at p23;omega
     refine go 5 ?_;exact a3G (_) (_) ⟨hm,hee,hr,hle,fun _ _ e=>by cases e;exact h1c⟩ sb rfl rfl
   ·refine go 14 ?_;exact a3G (_) (_) ⟨hm,hee,hr,hle,fun q0 q1 e=>by subst e;simp at hml;omega⟩ sb rfl rfl
  ·intro pr rr ⟨hm,hee,hr,hle,h1c⟩;have hml:=hm.len;have hcl:=hm.chlen hee;refine go 4 ?_;refine o_v rfl (a1X he rfl (k2 0 _ rfl)) ?_;refine gC 4 (fun h29 p29=>?_) fun h29 p29=>?_
   ·obtain rfl:=hm.full oM;have hpc:pr=ch:=by rw[←hee];simp[a2M]
    rw[hpc]at hm hr
    refine go 1 ?_;refine a3h fun hE6 hf6=>?_;refine b9Z T.mixed ?_;refine a0F 0 rfl rfl (by kernel_rfl) rfl (.cons₂ _ (.cons₂ _ (List.nil_sublist _))) rfl (a2P he rfl k1 rfl) ?_;refine a0F 1 rfl rfl (by kernel_rfl) rfl (.cons₂ _ (.cons₂ _ (List.nil_sublist _))) rfl (a1X he rfl (k2 0 _ rfl)) ?_;refine a0F 2 rfl rfl (by kernel_rfl) rfl (.cons₂ _ (.cons₂ _ (List.nil_sublist _))) rfl (a1X he rfl (k3 0 _ rfl)) ?_;refine dH 3 0 ?_;refine c1M m0 (fun I2 hI hC=>d4C I2 vc c (hvc.le hI) hsc _ l (hv0.le hI) hl hsl _ ch (a7s hC hcl hl)) rfl rfl ?_;refine dG 4 2 ?_;refine gS 0 35 (fun h35 p35=>?_) fun h35 p35=>?_
    ·refine dG 6 6 ?_;refine go 5 ?_;refine a0b ?_;refine a0a ?_;exact a4N (fun _ m=>m) ⟨true,done,_,rfl,rfl,hJt,fun _=>by rw[hr,b5A,if_neg (by simpa using h35),List.append_nil],fun h=>(by cases h)⟩
    ·refine d_t 6 rfl rfl (by kernel_rfl) rfl (fun _ m=>m.keeps (.cons₂ _ (.cons₂ _ (List.nil_sublist _)))) (a2L rfl rfl h35 (a1X he rfl (k4 0 _ rfl))) ?_;refine d_t 7 rfl rfl (by kernel_rfl) rfl (fun _ m=>m.keeps (.cons₂ _ (.cons₂ _ (List.nil_sublist _)))) (a2L rfl rfl h35 (a1X he rfl (k3 0 _ rfl))) ?_;refine dH 8 0 ?_;refine a0z rfl rfl h35 (c8M m0 (fun I2 hI hC=>c7T I2 _ ch (a7s hC hcl hl) oM) rfl rfl (fun v38 s38 q38=>?_));obtain rfl:=q38;refine a0d (l:=ch) rfl rfl (a6p _) fun I38 j38 R38=>?_
     try have hvc:=hvc.le j38
     try have hv0:=hv0.le j38
     try have hA:=hA.le j38
     try have k1:=k1.le j38
     try have k2:=k2.le j38
     try have k3:=k3.le j38
     try have k4:=k4.le j38
     try have k5:=k5.le j38
     try have hJt:=hJt.le j38
     refine dH 9 0 ?_;refine a0z rfl rfl h35 (b6S (ch) hY (hJm _ _ _ _ _ j38 hJt) (⟨_,rfl,R38⟩) (trivial) rfl rfl rfl (fun b39 I39 Hc39 j39 hJ39=>?_));refine dG 10 2 ?_;refine go 5 ?_;refine a0b ?_;refine a0a ?_;exact a4N (fun _ m=>m) ⟨b39,done++[ch],_,rfl,rfl,hJ39,fun _=>by rw[hr,b5A,if_pos (by simpa using h35)],fun _=>by rw[hr,b5A,if_pos (by simpa using h35)];exact List.prefix_refl _⟩
   ·obtain⟨q0,q1,rfl⟩:=hm.more oM;have h1c:=h1c q0 q1 rfl;obtain⟨hpl,rfl⟩:=hm.get;have hop:=b6T hee oM;rw[if_pos h1c]at hop
    have hc5:=b1M l[pr.length];refine go 3 ?_;refine b7X rfl rfl ?_;refine go 2 ?_;refine d2k rfl rfl ?_;refine go 4 ?_;refine o_v rfl (a1X he rfl (k2 0 _ rfl)) ?_;refine go 1 ?_;obtain⟨b44,o44,w44,e44,c44,r44⟩:=RdA.at_ hA (i:=pr.length) oM;obtain⟨q44,rfl,S44,d44,rfl,hS44,hd44,hm44⟩:=r44;refine o_v rfl (a0i he rfl rfl e44 (pr.length) oM oM) ?_;refine go 2 ?_;refine cV (a5l _ l[pr.length] S44 d44 ⟨_,_,rfl,hS44,hd44,hm44⟩ (hsl _ (List.getElem_mem hpl))) ?_;refine go 4 ?_
    refine a6N ((0:Nat)) (ch) (done) (Hc) (I) (fun k cc dn Hq J2=>J2)
     (fun k cc dn Hq J2=>[(1,.pointer (some ⟨g1,0,none⟩)),(2,.pointer (some ⟨g2,0,none⟩)),(3,.pointer (some ⟨g3,0,none⟩)),(4,.pointer (some ⟨g4,0,none⟩)),(5,.pointer (some ⟨g5,0,none⟩)),(6,.pointer (some ⟨g6,0,none⟩)),(46,.int .i64 (chs l[pr.length])),(47,.int .i64 ((k:Nat):Int))])
     (fun k cc dn Hq J2=>.blk gc 3 (a2W cc) :: .blk g6 3 [.int .i64 ((pr.length:Nat):Int)]::Hq)
     (fun k cc dn Hq J2=>((k:Nat):Int)≤chs l[pr.length]∧(∃z,cc=ch.set pr.length z)∧ILe I J2∧J true dn J2 Hq∧dn=done++(List.range k).flatMap (fun (q:Nat)=>b2x c l (pr++[(q:Int)]) q1))
     (fun k cc dn Hq J2=>(chs l[pr.length]).toNat-k) ⟨oM,⟨_,c5K oM⟩,ILe.refl _,hJt,by simp⟩ rfl sb rfl ?_
    intro k cc dn Hq J2 ⟨hk,⟨z,hz⟩,hJ2,hJt2,hdn⟩;subst hz;have hcz:(ch.set pr.length z).length=ch.length:=List.length_set;have hvc:=hvc.le hJ2;have hv0:=hv0.le hJ2;have hA:=hA.le hJ2;have k1:=k1.le hJ2;have k2:=k2.le hJ2;have k3:=k3.le hJ2;have k4:=k4.le hJ2;have k5:=k5.le hJ2;refine gC 6 (fun h48 p48=>?_) fun h48 p48=>?_
    ·have hkk:((k:Nat):Int)<chs l[pr.length]:=oM;refine go 12 ?_;refine o_v rfl (a1X he rfl (k3 0 _ rfl)) ?_;refine go 2 ?_;refine o_v rfl (a0i he rfl rfl rfl (pr.length) oM oM) ?_;refine go 1 ?_;refine a5A he rfl rfl rfl (by rw[a9H,Nat.blt_eq];omega) ?_;refine a2x (a2W ((pr++[((k:Nat):Int)])++a2M q1)) (by rw[Nat.zero_add,Nat.mul_one];show (a2W _).set _ (ci _)=_;rw[a9I,List.set_set,a7B hee]) ?_;refine go 4 ?_;refine o_v rfl (a1X he rfl (k5 0 _ rfl)) ?_;refine go 1 ?_;refine o_v rfl (OV.cast (u:=.int .i64 (((pr++[((k:Nat):Int)]).length:Nat):Int)) (a2T rfl rfl ⟨oM,oM⟩) (congrArg (Value.int .i64) (by simp))) ?_;refine go 1 ?_;refine a0b ?_;refine c8K (ih J2 hJ2 (pr++[((k:Nat):Int)]) q1 (by simp at hle;omega) (hm.next oM hkk) dn Hq hJt2) rfl rfl fun v57 I57 H57 j57 q57=>?_
     try have hvc:=hvc.le j57
     try have hv0:=hv0.le j57
     try have hA:=hA.le j57
     try have k1:=k1.le j57
     try have k2:=k2.le j57
     try have k3:=k3.le j57
     try have k4:=k4.le j57
     try have k5:=k5.le j57
     obtain⟨b57,dn2,Hd,rfl,rfl,hJt3,hbt,hbf⟩:=q57;refine gC 3 (fun h58 p58=>?_) fun h58 p58=>?_
     ·have hb:b57=false:=by simpa using h58
      refine go 11 ?_;refine a0b ?_;refine b7g (Hc:=[_,_]) call144 (c6Y _ g3 g6 gc l.length k3 ((pr++[((k:Nat):Int)])++a2M q1) pr.length (by rw[←a7B hee,List.length_set];omega) (by rw[←a7B hee,List.length_set];omega)) fun I7 H7 j7 q7=>?_;obtain⟨rfl,rfl⟩:=q7;refine b7G ?_;refine go 1 ?_;refine a0b ?_;refine a0a ?_;refine a2x (a2W ch) (by rw[←a7B hee,b7y oM hop]) ?_;exact a4N (fun _ m=>m) ⟨false,dn2,Hd,rfl,rfl,hb▸hJt3,fun h=>(by cases h),fun _=>by rw[hr,b2y];exact c4n (fun (q:Nat)=>b2x c l (pr++[(q:Int)]) q1) done (k:=k) oM (by have:=hbf hb;rwa[hdn]at this)⟩
     ·have hb:b57=true:=by simpa using h58
      refine go 8 ?_;refine a0b ?_;exact a1R (k+1) (_) (_) (_) (_) ⟨oM,⟨_,(a7B hee _).symm⟩,hJ2.trans j57,hb▸hJt3,by rw[hbt hb,hdn];exact c0B _ _ _⟩ oM rfl sb rfl
    ·refine go 11 ?_;refine a0b ?_;refine a0b ?_;refine b7g (Hc:=[_,_]) call144 (c6Y _ g3 g6 gc l.length k3 (ch.set pr.length z) pr.length oM oM) fun I7 H7 j7 q7=>?_;obtain⟨rfl,rfl⟩:=q7;refine b7G ?_;refine go 1 ?_;refine a0b ?_;refine a0a ?_;refine a2x (a2W ch) (by rw[b7y oM hop]) ?_;exact a4N (fun _ m=>m) ⟨true,dn,Hq,rfl,rfl,hJt2,fun _=>by rw[hr,b2y,hdn,show (chs l[pr.length]).toNat=k by omega],fun h=>(by cases h)⟩
end Go.Proofs.YtkndpfncklhhlaaGreat
set_option linter.all false
namespace Go.Sx
open Go
section
variable {c:List Kind} {l:List Rep}
theorem b7T {most:Int} (h:(a1Y c l most).2≠0):(a1Y c l most).1=[]:=by
 unfold a1Y at h ⊢
 split
 ·rfl
 ·rename_i h1
  split
  ·rfl
  ·rename_i h2
   rw[if_neg h1,if_neg h2]at h
   split
   ·rfl
   ·rename_i h3;rw[if_neg h3]at h;exact absurd rfl h
theorem c6u {most:Int} (h1:1≤most) (h2:most≤4096) (h:(a1Y c l most).2=0):a7U c l=0∧a4i c l≠[]∧(a1Y c l most).1=(a4i c l).take most.toNat:=by
 rw[b1C h1 h2]at h
 by_cases he:a7U c l=0
 ·rw[if_neg (show ¬(a7U c l≠0) by simp[he])]at h
  refine⟨he,fun hn=>?_,c3B h1 h2 he⟩;rw[if_pos hn]at h;cases h
 ·rw[if_pos he]at h;exact absurd h he
theorem b4w {a b:Int} (ha:1≤a∧a≤4096) (hb:1≤b∧b≤4096):(a1Y c l a).2=(a1Y c l b).2:=by
 rw[b1C ha.1 ha.2,b1C hb.1 hb.2]
theorem b0K {a b:Int} (ha:1≤a∧a≤4096) (hb:1≤b∧b≤4096) (hab:a≤b):(a1Y c l a).1=(a1Y c l b).1.take (a1Y c l a).1.length∧(a1Y c l a).1.length≤(a1Y c l b).1.length∧((a1Y c l a).1.length:Int)≤a∧((a1Y c l a).1.length=(a1Y c l b).1.length∨((a1Y c l a).1.length:Int)=a∨(a1Y c l a).2≠0):=by
 have hc:=b4w (c:=c) (l:=l) ha hb
 by_cases h:(a1Y c l a).2=0
 ·obtain⟨_,_,e1⟩:=c6u ha.1 ha.2 h;obtain⟨_,_,e2⟩:=c6u hb.1 hb.2 (by rw[←hc];exact h);rw[e1,e2];have hm:a.toNat≤b.toNat:=oM;refine⟨?_,?_,?_,?_⟩
  ·rw[List.take_take,List.length_take]
   rcases Nat.le_total a.toNat (a4i c l).length with h1|h1
   ·rw[Nat.min_eq_left h1,Nat.min_eq_left hm]
   ·rw[Nat.min_eq_right h1,List.take_of_length_le h1,List.take_of_length_le oM]
  ·rw[List.length_take,List.length_take];omega
  ·rw[List.length_take];omega
  ·rw[List.length_take,List.length_take];omega
 ·rw[b7T h];exact⟨by simp,by simp,by simp;omega,.inr (.inr h)⟩
end
end Go.Sx
namespace Go.Proofs.YtkndpfncklhhlaaGreat
open Go Go.Sx Tryz
set_option linter.all false
set_option maxRecDepth 20000
set_option maxHeartbeats 4000000
instance:Has (a2A prog 90) ([.slice none 0 0],1,24):=hk
instance:Has (a9w prog 82) (90,1):=hk
instance:Has (tyK prog 82) (false,1):=hk
instance:Has (prog.underlying 82) (.slice 90):=hk
instance:Has (a2r prog 201) [.nilFunc]:=hk
instance:Has (a2r prog 82) [.slice none 0 0]:=hk
instance:Has (a2r prog 90) [.slice none 0 0]:=hk
theorem c9A (I:IMap) (g1 g2 g3 g4 g5 gc:Nat) (vc:Value) (c:List Kind) (hvc:RdS I vc c) (hsc:SmC c) (l:List Rep) (A:Option Addr) (c0:Nat) (hv:RdS I (.slice A l.length c0) l) (hl:l.length≤1000000) (hsl:∀r∈l,∀e∈r.options,SmE e) (ly:Nat) (J:Bool→List (List Int)→IMap→List Res→Prop) (hJm:c3x J) (hY:a6L prog ly (fun I vs (x:List Int)=>∃v,vs=[v]∧RdS I v x) (fun _ _=>True) J) (k1:ICells I g1 0 [vc]) (k2:ICells I g2 0 [.slice A l.length c0]) (k3:ICells I g3 0 [.slice (some ⟨gc,0,none⟩) l.length l.length]) (k4:ICells I g4 0 [.func (.yield ly) #[] #[]]) (k5:ICells I g5 0 [.func (.func 140) #[] #[.pointer (some ⟨g1,0,none⟩),.pointer (some ⟨g2,0,none⟩),.pointer (some ⟨g3,0,none⟩),.pointer (some ⟨g4,0,none⟩),.pointer (some ⟨g5,0,none⟩)]]) (n:Nat):∀(I2:IMap),ILe I I2→∀(rs:List Rep),rs.length<n→∀(pre:List Int),Mid c l pre rs→∀(dn:List (List Int)) (Hq:List Res),J true dn I2 Hq →
    FnH prog 140 #[.int .i64 ((pre.length:Nat):Int),.pointer (some ⟨g1,0,none⟩),.pointer (some ⟨g2,0,none⟩),.pointer (some ⟨g3,0,none⟩),.pointer (some ⟨g4,0,none⟩),.pointer (some ⟨g5,0,none⟩)] I2 (.blk gc 3 (a2W (pre++a2M rs))::Hq) (b1z c l J gc 3 (pre++a2M rs) pre rs dn):=by
 induction n with
 |zero=>intro _ _ rs h;exact absurd h (Nat.not_lt_zero _)
 |succ n ih=>
  intro I2 hI rs hrs pre hm dn Hq hJ;exact d2C I2 g1 g2 g3 g4 g5 gc vc c (hvc.le hI) hsc l A c0 (hv.le hI) hl hsl ly J hJm hY (k1.le hI) (k2.le hI) (k3.le hI) (k4.le hI) (k5.le hI) rs (fun I3 hI3 pr rr hlt hm3 dn3 Hq3 hJ3=>ih I3 (hI.trans hI3) rr oM pr hm3 dn3 Hq3 hJ3) pre hm _ rfl dn Hq hJ
theorem d1t (I:IMap) (vc:Value) (c:List Kind) (hvc:RdS I vc c) (hsc:SmC c) (A:Option Addr) (c0:Nat) (l:List Rep) (hv:RdS I (.slice A l.length c0) l) (hl:l.length≤1000000) (hsl:∀r∈l,∀e∈r.options,SmE e) (hC:a1a c=true) (hP:∀r∈l,chs r≠0) (gl gv:Nat) (k2:ICells I gl 0 [.slice A l.length c0]) (k1:ICells I gv 0 [vc]) :
    d3e prog 139 [.pointer (some ⟨gl,0,none⟩),.pointer (some ⟨gv,0,none⟩)] I (fun I vs (x:List Int)=>∃v,vs=[v]∧RdS I v x) (fun _ _=>True) (fun pre=>pre=a4i c l) (fun pre=>pre <+: a4i c l):=by
 intro ly J I1 Hc hI1 hJm hY hJ0;have hvc:=hvc.le hI1;have hv:=hv.le hI1;have hA:=hv.toA;have k1:=k1.le hI1;have k2:=k2.le hI1;refine enter func139 call139 rfl ntmps139 rfl fun w0=>?_;refine go 4 fun g3=>?_
 refine go 4 ?_;refine o_v rfl (a1X he rfl (k2 0 _ rfl)) ?_;refine go 2 ?_;refine a4w he he rfl rfl rfl oM oM rfl fun g10=>?_;refine go 2 fun g4=>?_
 refine go 7 ?_;refine a0b ?_;refine a2x (a2W (a4a l 0)) ((b3k l.length).trans (by simp[a4a,a2M])) ?_;refine o_v rfl (a1X he rfl (k2 0 _ rfl)) ?_;refine go 5 ?_
 refine a0w (α:=Nat) 0 (fun i=>I1)
  (fun i=>[(1,.pointer (some ⟨gl,0,none⟩)),(2,.pointer (some ⟨gv,0,none⟩)),(3,.pointer (some ⟨g3,0,none⟩)),(4,.pointer (some ⟨g4,0,none⟩)),(11,.slice A l.length c0),(12,.int .i64 ((l.length:Nat):Int)),(13,.int .i64 ((i:Nat):Int))])
  (fun i=>.blk g10 3 (a2W (a4a l i)) :: .blk g4 90 [.slice (some ⟨g10,0,none⟩) l.length l.length] :: .blk g3 200 [.func (.yield ly) #[] #[]]::Hc)
  (fun i=>i≤l.length)
  (fun i=>l.length-i) (Nat.zero_le _) rfl sb rfl ?_
 intro i hi;have hol:=b8G l hi;refine gC 6 (fun h14 p14=>?_) fun h14 p14=>?_
 ·have hlt:i<l.length:=oM;refine go 7 ?_;obtain⟨b16,o16,w16,e16,c16,r16⟩:=RdA.at_ hA (i:=i) oM;obtain⟨q16,rfl,S16,d16,rfl,hS16,hd16,hm16⟩:=r16;refine go 4 fun g6=>?_
  refine go 9 ?_;refine cV (a5l _ l[i] S16 d16 ⟨_,_,rfl,hS16,hd16,hm16⟩ (hsl _ (List.getElem_mem hlt))) ?_;refine gC 3 (fun h20 p20=>?_) fun h20 p20=>?_
  ·refine go 3 ?_;refine o_v rfl (a0i he rfl rfl rfl (i) oM oM) ?_;refine go 1 ?_;refine a0b ?_;refine a5A he rfl rfl rfl (by rw[a9H,Nat.blt_eq];omega) ?_;refine a2x (a2W ((a4a l i).set i (-1))) (by rw[Nat.zero_add,Nat.mul_one,a9I]) ?_;refine go 8 ?_;refine a0b ?_;refine a0a ?_;exact a0s (i+1) oM oM rfl sb (by rw[a9T hlt,if_pos oM])
  ·refine go 8 ?_;refine a0a ?_;exact a0s (i+1) oM oM rfl sb (by rw[a9T hlt,if_neg oM])
 ·obtain rfl:i=l.length:=oM;rw[b5k];refine go 9 fun g7=>?_
  refine go 10 ?_;refine a0p ?_;refine a1Z fun Ig3 jg3 cg3=>?_;have hvc:=hvc.le jg3;have hv:=hv.le jg3;have k1:=k1.le jg3;have k2:=k2.le jg3;have hJ0:=hJm _ _ _ _ _ jg3 hJ0;refine a0c ?_;refine a1Z fun Ig4 jg4 cg4=>?_;have hvc:=hvc.le jg4;have hv:=hv.le jg4;have k1:=k1.le jg4;have k2:=k2.le jg4;have cg3:=cg3.le jg4;have hJ0:=hJm _ _ _ _ _ jg4 hJ0;refine a1Z fun Ig7 jg7 cg7=>?_;have hvc:=hvc.le jg7;have hv:=hv.le jg7;have k1:=k1.le jg7;have k2:=k2.le jg7;have cg3:=cg3.le jg7;have cg4:=cg4.le jg7;have hJ0:=hJm _ _ _ _ _ jg7 hJ0;refine o_v rfl (a1X he rfl (cg7 0 _ rfl)) ?_;refine go 1 ?_;refine c1K (c9A _ gv gl g4 g3 g7 g10 vc c hvc hsc l A c0 hv hl hsl ly J hJm hY k1 k2 cg4 cg3 cg7 (l.length+1) _ (ILe.refl _) l (Nat.lt_succ_self _) [] (c1A hC hP) [] Hc hJ0) rfl rfl fun v27 I27 H27 j27 q27=>?_;obtain⟨b27,dn,Hd,rfl,rfl,hJd,hbt,hbf⟩:=q27;refine go 2 ?_;refine a0a ?_;rw[c4t]
  exact d0v b27 _ hJd (by cases b27 with
    |false=>exact hbf rfl
    |true=>exact hbt rfl)
theorem b5G (I:IMap) (A:Option Addr) (m k:Nat) (vc:Value) :
    FnI prog 89 #[.agg #[vc],.slice A m k] I (fun u J=>∃gl gv,u = .func (.func 139) #[] #[.pointer (some ⟨gl,0,none⟩),.pointer (some ⟨gv,0,none⟩)]∧ICells J gl 0 [.slice A m k]∧ICells J gv 0 [vc]):=by
 refine enter func89 call89 rfl ntmps89 rfl fun w0=>?_;refine go 4 fun g2=>?_
 refine go 2 fun g3=>?_
 refine go 5 ?_;refine a1Z fun Ig3 jg3 cg3=>?_;refine a1Z fun Ig2 jg2 cg2=>?_;have cg3:=(cg3).le jg2;refine go 6 ?_;exact q_i ⟨_,_,rfl,cg3,cg2⟩
theorem d4h (I:IMap) (vc:Value) (c:List Kind) (hvc:RdS I vc c) (hsc:SmC c) (v:Value) (l:List Rep) (hv:RdS I v l) (hl:l.length≤1000000) (hsl:∀r∈l,∀e∈r.options,SmE e) (most:Int) :
    FnI prog 45 #[.agg #[vc],v,.int .i64 most] I (fun u J=>∃w,u = .tuple #[w,.int .i64 (a1Y c l most).2]∧RdS J w (a1Y c l most).1):=by
 have hv0:=hv;obtain⟨A,c0,rfl,hA,hc,hm⟩:=hv;refine enter func45 call45 rfl ntmps45 rfl fun w0=>?_;refine go 4 fun g3=>?_
 refine go 2 fun g5=>?_
 refine gS 10 13 (fun h13 p13=>?_) fun h13 p13=>?_
 ·refine go 15 ?_;have hr:a1Y c l most=([],1):=by unfold a1Y;rw[if_pos (by simp;omega)]
  exact q_i ⟨_,by rw[hr],by rw[hr];exact RdS.nil'⟩
 ·refine gC 5 (fun h16 p16=>?_) fun h16 p16=>?_
  ·refine go 9 ?_;have hr:a1Y c l most=([],1):=by unfold a1Y;rw[if_pos (by simp;omega)]
   exact q_i ⟨_,by rw[hr],by rw[hr];exact RdS.nil'⟩
  ·have hb2:1≤most∧most≤4096:=oM;have hb:¬(decide (most<1)||decide (4096<most))=true:=by simp;omega
   refine go 8 ?_;refine cV (c2w _ vc c hvc hsc _ l hv0 hl hsl) ?_;refine gC 9 (fun h21 p21=>?_) fun h21 p21=>?_
   ·refine go 10 ?_;have hr:a1Y c l most=([],a7U c l):=by unfold a1Y;rw[if_neg hb,if_pos p21]
    exact q_i ⟨_,by rw[hr],by rw[hr];exact RdS.nil'⟩
   ·have her:a7U c l=0:=by simpa using h21
    obtain⟨hC,hP⟩:=b6g her;refine go 6 fun g9=>?_
    refine go 6 ?_;refine a0G 90 1 ?_;refine go 2 ?_;refine a0D (b5G _ A _ c0 vc) rfl rfl fun v25 I25 j25 q25=>?_;have hvc:=hvc.le j25;have hv0:=hv0.le j25;obtain⟨gl,gv,rfl,k2,k1⟩:=q25;refine go 3 ?_;refine a0c ?_;refine a0c ?_;refine a0c ?_;refine b1K (σ:=Option Addr×Nat×List Value) (ps:=[26]) (none,0,[]) (fun ⟨A9,c9,xs⟩=>[.row (.slice A9 xs.length c9) 90 1 xs.length xs,.blk g9 82 [.slice A9 xs.length c9],.blk g5 3 [.int .i64 most]]) (fun pre I ⟨A9,c9,xs⟩=>Flat I xs pre∧(pre.length:Int)<most) (fun pre I ⟨A9,c9,xs⟩ cd=>cd = .exit 0∧Flat I xs pre∧(pre.length:Int)=most) rfl call139 (d1t _ vc c hvc hsc A c0 l hv0 hl hsl hC hP gl gv k2 k1) (fun I vs x h=>by obtain⟨w,rfl,_⟩:=h;rfl) rfl (fun pre I I' s hI h=>by obtain⟨A9,c9,xs⟩:=s;exact⟨h.1.le hI,h.2⟩) (fun pre I I' s c hI h=>by obtain⟨A9,c9,xs⟩:=s;exact⟨h.1,h.2.1.le hI,h.2.2⟩) (⟨.nil,by simp;omega⟩) rfl ?_ ?_ ?_
    ·rintro r E1 pre x vs I1 ⟨A9,c9,xs⟩ hI1 ⟨hF,hlt⟩ ⟨w,rfl,hw⟩ _;have hw0:=hw;obtain⟨B,cB,rfl,_,_,_⟩:=hw;have hxl:xs.length=pre.length:=hF.len.trans (Nat.mul_one _);refine c9Q ?_;refine go 3 ?_;refine b2t ?_;refine go 7 fun v29=>?_
     refine go 1 ?_;refine a0p ?_;refine a0o he he rfl rfl rfl rfl rfl oM oM rfl fun v30=>?_;refine a2I fun A30 c30 hv30=>?_;subst hv30;refine go 1 ?_;refine a0A ?_;refine gC 11 (fun h34 p34=>?_) fun h34 p34=>?_
     ·refine go 2 ?_;refine a0c ?_;refine a0a ?_;refine a0A ?_;refine a0b ?_;refine a0c ?_;refine a0A ?_;refine a0A ?_;exact d2u ((A30,c30,xs++[.slice B x.length cB])) (hI1) (⟨rfl,hF.append (.one ⟨_,rfl,hw0⟩),by simp only[List.length_append,List.length_singleton];omega⟩) (by simp only[List.length_append,List.length_singleton];rfl)
     ·refine go 2 ?_;refine a0c ?_;refine a0a ?_;refine a0A ?_;refine a0b ?_;refine a0c ?_;refine a0A ?_;refine a0A ?_;exact b1j ((A30,c30,xs++[.slice B x.length cB])) (hI1) (⟨hF.append (.one ⟨_,rfl,hw0⟩),by simp only[List.length_append,List.length_singleton]at *;omega⟩) (by simp only[List.length_append,List.length_singleton];rfl)
    ·rintro D pre I1 ⟨A9,c9,xs⟩ hI1 hfull ⟨hF,hlt⟩;have hxl:xs.length=pre.length:=hF.len.trans (Nat.mul_one _);have hpre:pre=(a4i c l).take most.toNat:=by rw[←hfull,List.take_of_length_le oM]
     refine c2F ?_;refine gC 10 (fun h37 p37=>?_) fun h37 p37=>?_
     ·refine go 8 ?_;refine a7E ?_;refine go 1 ?_;have hr:a1Y c l most=([],21):=by unfold a1Y;rw[if_neg hb,if_neg (by simpa using her),if_pos (by rw[←hpre];exact List.eq_nil_of_length_eq_zero oM)]
      exact q_i ⟨_,by rw[hr],by rw[hr];exact RdS.nil'⟩
     ·refine go 4 ?_;refine a0b ?_;refine a0d (l:=pre) rfl hxl (hF) fun Ip jp Rp=>?_;refine go 6 ?_;refine a7E ?_;refine go 1 ?_;have hr:a1Y c l most=(pre,0):=by unfold a1Y;rw[if_neg hb,if_neg (by simpa using her),←hpre,if_neg (fun e=>by rw[e,List.length_nil]at hxl;omega)]
      exact q_i ⟨_,by rw[hr],by rw[hr];exact Rp⟩
    ·rintro D pre I1 ⟨A9,c9,xs⟩ cd hI1 hpart ⟨rfl,hF,heq⟩;have hxl:xs.length=pre.length:=hF.len.trans (Nat.mul_one _);have hpre:pre=(a4i c l).take most.toNat:=by rw[show most.toNat=pre.length by omega];exact List.prefix_iff_eq_take.1 hpart
     refine c2F ?_;refine gC 11 (fun h37 p37=>?_) fun h37 p37=>?_
     ·refine go 8 ?_;refine a7E ?_;refine go 1 ?_;have hr:a1Y c l most=([],21):=by unfold a1Y;rw[if_neg hb,if_neg (by simpa using her),if_pos (by rw[←hpre];exact List.eq_nil_of_length_eq_zero oM)]
      exact q_i ⟨_,by rw[hr],by rw[hr];exact RdS.nil'⟩
     ·refine go 4 ?_;refine a0b ?_;refine a0d (l:=pre) rfl hxl (hF) fun Ip jp Rp=>?_;refine go 6 ?_;refine a7E ?_;refine go 1 ?_;have hr:a1Y c l most=(pre,0):=by unfold a1Y;rw[if_neg hb,if_neg (by simpa using her),←hpre,if_neg (fun e=>by rw[e,List.length_nil]at hxl;omega)]
      exact q_i ⟨_,by rw[hr],by rw[hr];exact Rp⟩
end Go.Proofs.YtkndpfncklhhlaaGreat
set_option linter.all false
namespace Go.Sx
open Go
section
variable {P:Program} {n:Sz} {E:Ent} {I:IMap} {L:LL} {H:List Res} {d ty t1 t2:Nat} {pos:String} {af:Array Edge} {x y:Operand} {a b:Int}
theorem d0i (hx:ev L x=some (.int .i64 a)) (hy:ev L y=some (.int .i64 b)):OV P n E I L H ⟨some d,.call { callee:=.builtin .max,args:=#[x,y],argTypes:=#[t1,t2] },ty,pos,af,none⟩ (.int .i64 (if b>a then b else a)):=
 (fun a w st _=>by simp[execOp,st.ev hx,st.ev hy,resolve,invoke,builtin,Builtin.max_,Builtin.max2])
theorem d2L (hx:ev L x=some (.int .i64 a)) (hy:ev L y=some (.int .i64 b)):OV P n E I L H ⟨some d,.call { callee:=.builtin .min,args:=#[x,y],argTypes:=#[t1,t2] },ty,pos,af,none⟩ (.int .i64 (if b<a then b else a)):=
 (fun a w st _=>by simp[execOp,st.ev hx,st.ev hy,resolve,invoke,builtin,Builtin.min_,Builtin.min2])
end
def a5s (most:Int):Nat→List Rep→Nat
 |n,[]=>n
 |n,r::rs=>if ((n:Nat):Int)≤most then a5s most (n * max 1 (chs r).toNat) rs else n
theorem c3k {most:Int} {l:List Rep} {i n:Nat} (h:i<l.length) (hn:((n:Nat):Int)≤most):a5s most n (l.drop i)=a5s most (n * max 1 (chs l[i]).toNat) (l.drop (i+1)):=by
 rw[List.drop_eq_getElem_cons h,a5s,if_pos hn]
theorem c6h {most:Int} {n:Nat} (hn:¬((n:Nat):Int)≤most):∀l:List Rep,a5s most n l=n
 | []=>rfl
 |r::l=>by rw[a5s,if_neg hn]
theorem c3j {most:Int}:∀(l:List Rep) (n:Nat),((a5s most n l:Nat):Int)≤most→((n * b0t l:Nat):Int)≤most
 | [],n,h=>by simpa[a5s,b0t]using h
 |r::l,n,h=>by
  rw[a5s]at h
  split at h
  ·have h1:=c3j l _ h
   have h2:n * b0t (r::l)≤n * max 1 (chs r).toNat * b0t l:=by
    rw[b0t,←Nat.mul_assoc];exact Nat.mul_le_mul_right _ (Nat.mul_le_mul_left _ (Nat.le_max_right _ _))
   omega
  ·rename_i h1;exact absurd h h1
def b8g (l:List Rep) (n:Int):Bool:=c6G l 12&&decide (((a5s n 1 l:Nat):Int)≤n)
theorem c4b {l:List Rep} {n:Int} (h:b8g l n=true):c6G l 12=true∧((b0t l:Nat):Int)≤n:=by
 simp only[b8g,Bool.and_eq_true,decide_eq_true_eq]at h
 refine⟨h.1,?_⟩;have:=c3j l 1 h.2
 rwa[Nat.one_mul]at this
end Go.Sx
set_option linter.all false
namespace Go.Sx
open Go
section
variable {P:Program} {ρ:Option Nat} {n:Sz} {E:Ent} {I:IMap} {L:LL} {H:List Res} {Q:Exit→Act→World→Prop} {ops:Array Oper} {K:Act→World→Prop}
variable {α:Type} [Enc α] {d ty:Nat} {pos:String} {af:Array Edge} {x y:Operand}
theorem Flat.rda {I:IMap} {g:Nat} {ws:List Value} {l:List α} (hF:Flat I ws l) (hc:ICells I g 0 ws):RdA I (some ⟨g,0,none⟩) l:=fun _=>
 ⟨g,0,rfl,fun i x hi=>by
  obtain⟨vs,h1,h2⟩:=hF.at_ i x hi;refine⟨vs,fun j u hu=>?_,h1⟩;have h3:=hc _ _ (h2 j u hu);rw[Nat.zero_add]at h3
  rw[Nat.zero_add]
  exact h3⟩
end
end Go.Sx
namespace Go.Proofs.YtkndpfncklhhlaaGreat
open Go Go.Sx Tryz
set_option linter.all false
set_option maxRecDepth 20000
set_option maxHeartbeats 4000000
theorem c2n (I:IMap) (v:Value) (l:List Rep) (hv:RdS I v l) (hl:l.length≤1000000) (hsl:∀r∈l,∀e∈r.options,SmE e) (most:Int) (hmo:most≤4096) :
    FnV prog 41 #[v,.int .i64 most] I (.int .i64 ((a5s most 1 l:Nat):Int)):=by
 obtain⟨A,c0,rfl,hA,hc,hm⟩:=hv;refine enter func41 call41 rfl ntmps41 rfl fun w0=>?_;refine go 17 ?_
 refine a1i (0) (1) (fun i n=>I)
  (fun i n=>[(0,.slice A l.length c0),(1,.int .i64 most),(5,.int .i64 ((n:Nat):Int)),(6,.int .i64 ((i:Nat):Int))])
  (fun i n=>[])
  (fun i n=>i≤l.length∧n≤1000000∧a5s most 1 l=a5s most n (l.drop i))
  (fun i n=>l.length-i) ⟨Nat.zero_le _,oM,rfl⟩ rfl sb rfl ?_
 intro i n ⟨hi,hn,hw⟩;refine gS 8 11 (fun h11 p11=>?_) fun h11 p11=>?_
 ·refine gC 6 (fun h15 p15=>?_) fun h15 p15=>?_
  ·have hlt:i<l.length:=oM;have hnm:((n:Nat):Int)≤most:=oM;have hc5:=b1M l[i];have hcn:=b6b l[i];have hpn:n * max 1 (chs l[i]).toNat≤4096 * 5:=Nat.mul_le_mul oM oM;have hpi:(n:Int) * ((max 1 (chs l[i]).toNat:Nat):Int)=((n * max 1 (chs l[i]).toNat:Nat):Int):=(Int.natCast_mul _ _).symm
   generalize hmx:max 1 (chs l[i]).toNat=mx at hpn hpi
   refine go 8 ?_;obtain⟨b21,o21,w21,e21,c21,r21⟩:=RdA.at_ hA (i:=i) oM;obtain⟨q21,rfl,S21,d21,rfl,hS21,hd21,hm21⟩:=r21;refine go 3 ?_;refine cV (a4O _ l[i] S21 d21 ⟨_,_,rfl,hS21,hd21,hm21⟩ (hsl _ (List.getElem_mem hlt))) ?_;refine o_v rfl (OV.cast (u:=.int .i64 ((mx:Nat):Int)) (d0i rfl rfl) (congrArg (Value.int .i64) (by split<;>omega))) ?_;refine o_v rfl (OV.cast (u:=.int .i64 ((n * mx:Nat):Int)) (b2E rfl rfl ⟨oM,oM⟩) (congrArg (Value.int .i64) (by rw[hpi]))) ?_;refine go 10 ?_;exact a0t (i+1) (n * mx) ⟨oM,oM,by rw[hw,c3k hlt oM,hmx]⟩ oM rfl sb rfl
  ·refine go 13 ?_;exact q_v (congrArg (Value.int .i64) (by rw[hw,c6h oM]))
 ·refine go 20 ?_;obtain rfl:i=l.length:=oM;exact q_v (congrArg (Value.int .i64) (by rw[hw,List.drop_length];rfl))
theorem c5y (I:IMap) (v:Value) (l:List Rep) (hv:RdS I v l) (most:Int) (hmo:most≤4096) :
    FnV prog 25 #[v,.int .i64 most] I (.bool (b8g l most)):=by
 refine enter func25 call25 rfl ntmps25 rfl fun w0=>?_;refine go 9 ?_;refine cV (c5v _ v l hv 12) ?_;refine gS 1 7 (fun h7 p7=>?_) fun h7 p7=>?_
 ·refine go 3 ?_;refine a0z rfl rfl h7 (a0x (c2n _ v l hv (by have:=(b4M h7).2;omega) (b4M h7).1 most hmo) rfl rfl ?_);refine go 8 ?_;exact q_v (congrArg Value.bool (by simp only[b8g,h7,bS]))
 ·refine go 11 ?_;exact q_v (congrArg Value.bool (by simp only[b8g,h7,bS]))
end Go.Proofs.YtkndpfncklhhlaaGreat
set_option linter.all false
namespace Go.Sx
open Go
def b2L (l:List Rep) (ch:List Int):Bool:=decide (((l.length:Nat):Int)=(ch.length:Nat))&&a7a okK l ch l.length
theorem a2N (l:List Rep) (ch:List Int):a1j l ch=if b2L l ch=true then (a5u l ch l.length,0) else ([],1):=rfl
theorem b4t {l:List Rep} {ch:List Int} (h:b2L l ch=true):ch.length=l.length:=by
 simp only[b2L,Bool.and_eq_true,decide_eq_true_eq]at h;omega
theorem b9A {l:List Rep} {ch:List Int} (h:b2L l ch=true) {i:Nat} (h1:i<l.length) (h2:i<ch.length):0≤ch[i]∧ch[i]<chs l[i]:=by
 simp only[b2L,Bool.and_eq_true]at h
 have:=b1B h.2 h1 h1 h2
 simp only[okK,Bool.not_eq_true',Bool.or_eq_false_iff,decide_eq_false_iff_not]at this
 omega
theorem c0O {c:List Kind} {l:List Rep} (h:c3t c l=true):a1a c=true∧∀r∈l,a0l r=true:=by
 simp only[c3t,Bool.and_eq_true]at h
 exact⟨h.1,fun r hr=>by obtain⟨_,h1⟩:=a4g h.2 hr;exact h1⟩
theorem c0N (c:List Kind) (l:List Rep) (ch:List Int):(c3t c l&&b2L l ch)=a1G c l ch 0:=by
 cases hg:c3t c l with
 |false=>rw[c8l hg];rfl
 |true=>
  obtain⟨hc,hv⟩:=c0O hg;rw[Bool.true_and,Bool.eq_iff_iff]
  constructor
  ·intro h;refine a8M hc (b4t h) fun i h1 h2=>?_
   have:=b9A h h1 h2;have:=b9P (hv _ (List.getElem_mem h1))
   omega
  ·intro h;have hl:=(a2E h).1
   simp only[b2L,Bool.and_eq_true,decide_eq_true_eq]
   refine⟨oM,b5T (fun i h1 h2=>?_) hl⟩;have:=a8L h h1 h2
   simp only[okK,Bool.not_eq_true',Bool.or_eq_false_iff,decide_eq_false_iff_not]
   omega
theorem c0p {l:List Rep} {ch:List Int} (ha:b2L l ch=true) (hv:∀r∈l,a0l r=true):a5u l ch l.length=c1Y 40001 l ch:=by
 have hl:=b4t ha;rw[←b6X hl hv]
 have key:∀n,n≤l.length→a5u l ch n=(a2R 40001 l ch n).map Pkd.e:=by
  intro n
  induction n with
  |zero=>intro _;rfl
  |succ n ih=>
   intro hn;have h1:n<l.length:=oM;have h2:n<ch.length:=oM;rw[b1R,a5k,List.map_append,ih oM]
   congr 1
   have h3:=b9A ha h1 h2;rw[b4I h1 h2,pkd,a2V h1 h2]
   cases hq:l[n].options[ch[n].toNat]? with
   |none=>simp[a4b,h3,hq]
   |some e=>
    have hd:=a8g (a3r (hv _ (List.getElem_mem h1)) e (List.mem_of_getElem? hq))
    simp[a4b,h3,hq,show e.day<40001 from oM,hd]
 exact key _ (Nat.le_refl _)
theorem d2x {c:List Kind} {l:List Rep} {ch:List Int} (hg:c3t c l=true) (ha:b2L l ch=true):decide ((b7x c (a1j l ch).1).2.2=0)=isF c l ch:=by
 have h:a1G c l ch 0=true:=by rw[←c0N,hg,ha];rfl
 rw[d3O h,a2N,if_pos ha,b7x,if_neg (by rw[(c0O hg).1];decide),←c2v,c0p ha (c0O hg).2]
theorem c2o {c:List Kind} {l:List Rep} {ch:List Int} (h:(c3t c l&&b2L l ch)=false):isF c l ch=false:=by
 rw[c0N]at h;exact d3P h
theorem d1l {l:List Rep} {ch:List Int} {n:Nat} {e:Evt} (hsl:∀r∈l,∀e∈r.options,SmE e) (h:e∈a5u l ch n):SmE e:=by
 rw[a5u,List.mem_filterMap]at h
 obtain⟨i,_,h⟩:=h;unfold d1i at2 at h
 split at h
 ·rename_i r k h1 h2
  exact hsl r (List.mem_of_getElem? h1) e (List.mem_of_getElem? (by simpa using h))
 ·simp at h
end Go.Sx
set_option linter.all false
namespace Go.Sx
open Go
def a2z:List Rep→List Int→List Int×Bool
 |r::l,x::t=>if (a2z l t).2=true then (x::(a2z l t).1,true) else if x+1<chs r then ((x+1)::(a2z l t).1,true) else (0::(a2z l t).1,false)
 |_,_=>([],false)
def a3t (n:Nat):List Int:=List.replicate n 0
structure Chn (l:List Rep) (xs:List (List Int)):Prop where
 pos:0<xs.length
 first:xs[0]? = some (a3t l.length)
 step:∀k (h:k+1<xs.length),a2z l xs[k]=(xs[k+1],true)
 last:∀(h:xs.length-1<xs.length),a2z l xs[xs.length-1]=(a3t l.length,false)
theorem c4m {α:Type} {xs:List α} {n m:Nat} (f:Nat→α→List Int) (hm:xs.length=m):∀{q i:Nat} (hq:q<n) (hi:i<m),((List.range n).flatMap fun k=>xs.map (f k))[q * m+i]? = (xs[i]?).map (f q):=by
 induction n with
 |zero=>intro q i hq;omega
 |succ n ih=>
  intro q i hq hi;rw[List.range_succ,List.flatMap_append]
  have hlen:((List.range n).flatMap fun k=>xs.map (f k)).length=n * m:=by
   rw[List.length_flatMap]
   simp only[List.length_map,hm]
   rw[List.map_const',List.sum_replicate_nat,List.length_range]
  by_cases h:q<n
  ·rw[List.getElem?_append_left (by
    rw[hlen];have:(q+1) * m≤n * m:=Nat.mul_le_mul_right _ h
    rw[Nat.add_mul]at this;omega)]
   exact ih h hi
  ·obtain rfl:q=n:=oM;rw[List.getElem?_append_right (by rw[hlen];omega),hlen]
   simp
theorem b4q:∀{l:List Rep},(∀r∈l,1≤chs r)→Chn l (a2g l)
 | [],_=>⟨by simp[a2g],rfl,fun k h=>by simp[a2g]at h,fun h=>rfl⟩
 |r::l,hp=>by
  have ih:=b4q (l:=l) fun x hx=>hp x (List.mem_cons_of_mem _ hx)
  have hr:=hp r (by simp);obtain⟨m,hm⟩:∃m,(a2g l).length=m:=⟨_,rfl⟩;obtain⟨n,hn⟩:∃n,(chs r).toNat=n:=⟨_,rfl⟩;have hm0:0<m:=by rw[←hm];exact ih.pos
  have hlen:(a2g (r::l)).length=n * m:=by rw[b4r,b0t,hn,←b4r,hm]
  have hat:∀{q i:Nat} (hq:q<n) (hi:i<m),(a2g (r::l))[q * m+i]? = ((a2g l)[i]?).map fun t=>(q:Int)::t:=fun hq hi=>by
   rw[a2g,hn];exact c4m (fun (k:Nat) t=>(k:Int)::t) hm hq hi
  have hn0:0<n:=oM
  have hge:∀{k:Nat} (h:k<(a2g (r::l)).length),∃(q i:Nat) (hq:q<n) (hi:i<(a2g l).length),k=q * m+i∧(a2g (r::l))[k]=(q:Int)::(a2g l)[i]:=fun {k} h=>by
   rw[hlen]at h
   have hq:k / m<n:=(Nat.div_lt_iff_lt_mul hm0).2 h;have hi:k % m<m:=Nat.mod_lt _ hm0;have he:k=k / m * m+k % m:=by rw[Nat.mul_comm];exact (Nat.div_add_mod k m).symm
   refine⟨k / m,k % m,hq,by rw[hm];exact hi,he,?_⟩;have h1:=hat hq hi;rw[←he,List.getElem?_eq_getElem (by rw[hlen];exact h),List.getElem?_eq_getElem (by rw[hm];exact hi)]at h1
   exact Option.some.inj h1
  refine⟨by rw[hlen];exact Nat.mul_pos hn0 hm0,?_,fun k h=>?_,fun h=>?_⟩
  ·have:=hat hn0 hm0;rw[Nat.zero_mul,Nat.zero_add,ih.first]at this
   rw[this];simp[a3t,List.replicate_succ]
  ·obtain⟨q,i,hq,hi,hk,e1⟩:=hge (k:=k) oM;rw[e1]
   simp only[a2z]
   rw[hm]at hi
   by_cases hl:i+1<m
   ·have e2:=ih.step i (by rw[hm];exact hl);rw[e2]
    simp only[if_true]
    have h3:=hat hq hl;rw[show q * m+(i+1)=k+1 from oM,List.getElem?_eq_getElem h,List.getElem?_eq_getElem (by rw[hm];exact hl)]at h3
    rw[Option.some.inj h3]
   ·have hi1:i=m-1:=oM
    have e2:a2z l ((a2g l)[i]'(by rw[hm];exact hi))=(a3t l.length,false):=by
     have:=ih.last oM
     simp only[hm]at this
     subst hi1;exact this
    rw[e2];rw[hlen]at h
    have hq1:q+1<n:=by
     rcases Nat.lt_or_ge (q+1) n with h1|h1
     ·exact h1
     ·have:n * m≤(q+1) * m:=Nat.mul_le_mul_right _ h1;rw[Nat.add_mul]at this;omega
    have h3:=hat hq1 hm0;rw[show (q+1) * m+0=k+1 by rw[Nat.add_mul];omega,List.getElem?_eq_getElem (by rw[hlen];exact h),ih.first]at h3
    rw[Option.some.inj h3];rw[if_neg (show ¬(false=true) by decide),if_pos oM]
    simp
  ·obtain⟨q,i,hq,hi,hk,e1⟩:=hge h;rw[e1];rw[hm]at hi
   rw[hlen]at hk
   have hqm:q+1=n:=by
    rcases Nat.lt_or_ge (q+1) n with h1|h1
    ·have h2:(q+2) * m≤n * m:=Nat.mul_le_mul_right _ h1;rw[Nat.add_mul]at h2;omega
    ·omega
   have hi1:i=m-1:=by
    subst hqm;rw[Nat.add_mul]at hk;omega
   have e2:a2z l ((a2g l)[i]'(by rw[hm];exact hi))=(a3t l.length,false):=by
    have:=ih.last oM
    simp only[hm]at this
    subst hi1;exact this
   simp only[a2z]
   rw[e2,if_neg (show ¬(false=true) by decide),if_neg oM]
   simp[a3t,List.replicate_succ]
end Go.Sx
set_option linter.all false
namespace Go.Sx
open Go
section
variable {P:Program} {ρ:Option Nat} {n:Sz} {E:Ent} {I I':IMap} {L:LL} {H:List Res} {K:Act→World→Prop} {Q:Exit→Act→World→Prop} {N:Act→World→Prop}
variable {α β γ δ ε ζ η θ:Type}
def c6o (n:Sz) (E:Ent) (Ix:α→β→γ→δ→ε→ζ→IMap) (Lx:α→β→γ→δ→ε→ζ→LL) (Hx:α→β→γ→δ→ε→ζ→List Res) (p:α→β→γ→δ→ε→ζ→Prop) (μ:α→β→γ→δ→ε→ζ→Nat) (x0:α) (x1:β) (x2:γ) (x3:δ) (x4:ε) (x5:ζ):Act→World→Prop:=
 fun a w=>∃y0 y1 y2 y3 y4 y5,p y0 y1 y2 y3 y4 y5∧μ y0 y1 y2 y3 y4 y5<μ x0 x1 x2 x3 x4 x5∧St n a (Lx y0 y1 y2 y3 y4 y5)∧Mem E (Ix y0 y1 y2 y3 y4 y5) (Hx y0 y1 y2 y3 y4 y5) w
theorem c7E (a0:α) (a1:β) (a2:γ) (a3:δ) (a4:ε) (a5:ζ) (Ix:α→β→γ→δ→ε→ζ→IMap) (Lx:α→β→γ→δ→ε→ζ→LL) (Hx:α→β→γ→δ→ε→ζ→List Res) (p:α→β→γ→δ→ε→ζ→Prop) (μ:α→β→γ→δ→ε→ζ→Nat) {c:Code}
  (h0:p a0 a1 a2 a3 a4 a5) (hI:Ix a0 a1 a2 a3 a4 a5=I) (hL:Sub (Lx a0 a1 a2 a3 a4 a5) L) (hH:Hx a0 a1 a2 a3 a4 a5=H)
  (round:∀x0 x1 x2 x3 x4 x5,p x0 x1 x2 x3 x4 x5→SX n E (Ix x0 x1 x2 x3 x4 x5) (Lx x0 x1 x2 x3 x4 x5) (Hx x0 x1 x2 x3 x4 x5) (c.wq ρ P (Exit.then (c6o n E Ix Lx Hx p μ x0 x1 x2 x3 x4 x5) Q))):SX n E I L H ((Code.loop c).wq ρ P Q):=
 a0w (α:=α×β×γ×δ×ε×ζ) (a0,a1,a2,a3,a4,a5) (fun q=>Ix q.1 q.2.1 q.2.2.1 q.2.2.2.1 q.2.2.2.2.1 q.2.2.2.2.2) (fun q=>Lx q.1 q.2.1 q.2.2.1 q.2.2.2.1 q.2.2.2.2.1 q.2.2.2.2.2) (fun q=>Hx q.1 q.2.1 q.2.2.1 q.2.2.2.1 q.2.2.2.2.1 q.2.2.2.2.2) (fun q=>p q.1 q.2.1 q.2.2.1 q.2.2.2.1 q.2.2.2.2.1 q.2.2.2.2.2) (fun q=>μ q.1 q.2.1 q.2.2.1 q.2.2.2.1 q.2.2.2.2.1 q.2.2.2.2.2) h0 hI hL hH
  fun ⟨x0,x1,x2,x3,x4,x5⟩ hp=>b0m (round x0 x1 x2 x3 x4 x5 hp) fun a w h=>a3K (fun e a w q=>by
   cases e with
   |normal=>obtain⟨y0,y1,y2,y3,y4,y5,h1,h2,h3,h4⟩:=q;exact⟨(y0,y1,y2,y3,y4,y5),h1,h2,h3,h4⟩
   |_=>exact q) h
theorem c9f {Ix:α→β→γ→δ→ε→ζ→IMap} {Lx:α→β→γ→δ→ε→ζ→LL} {Hx:α→β→γ→δ→ε→ζ→List Res} {p:α→β→γ→δ→ε→ζ→Prop} {μ:α→β→γ→δ→ε→ζ→Nat} {x0:α} {x1:β} {x2:γ} {x3:δ} {x4:ε} {x5:ζ} (y0:α) (y1:β) (y2:γ) (y3:δ) (y4:ε) (y5:ζ) (hp:p y0 y1 y2 y3 y4 y5) (hμ:μ y0 y1 y2 y3 y4 y5<μ x0 x1 x2 x3 x4 x5)
  (hI:Ix y0 y1 y2 y3 y4 y5=I) (hL:Sub (Lx y0 y1 y2 y3 y4 y5) L) (hH:Hx y0 y1 y2 y3 y4 y5=H):SX n E I L H (c6o n E Ix Lx Hx p μ x0 x1 x2 x3 x4 x5):=
 fun a w s m=>⟨y0,y1,y2,y3,y4,y5,hp,hμ,s.sub hL,by rw[hI,hH];exact m⟩
def c6p (n:Sz) (E:Ent) (Ix:α→β→γ→δ→ε→ζ→η→IMap) (Lx:α→β→γ→δ→ε→ζ→η→LL) (Hx:α→β→γ→δ→ε→ζ→η→List Res) (p:α→β→γ→δ→ε→ζ→η→Prop) (μ:α→β→γ→δ→ε→ζ→η→Nat) (x0:α) (x1:β) (x2:γ) (x3:δ) (x4:ε) (x5:ζ) (x6:η):Act→World→Prop:=
 fun a w=>∃y0 y1 y2 y3 y4 y5 y6,p y0 y1 y2 y3 y4 y5 y6∧μ y0 y1 y2 y3 y4 y5 y6<μ x0 x1 x2 x3 x4 x5 x6∧St n a (Lx y0 y1 y2 y3 y4 y5 y6)∧Mem E (Ix y0 y1 y2 y3 y4 y5 y6) (Hx y0 y1 y2 y3 y4 y5 y6) w
theorem c7F (a0:α) (a1:β) (a2:γ) (a3:δ) (a4:ε) (a5:ζ) (a6:η) (Ix:α→β→γ→δ→ε→ζ→η→IMap) (Lx:α→β→γ→δ→ε→ζ→η→LL) (Hx:α→β→γ→δ→ε→ζ→η→List Res) (p:α→β→γ→δ→ε→ζ→η→Prop) (μ:α→β→γ→δ→ε→ζ→η→Nat) {c:Code}
  (h0:p a0 a1 a2 a3 a4 a5 a6) (hI:Ix a0 a1 a2 a3 a4 a5 a6=I) (hL:Sub (Lx a0 a1 a2 a3 a4 a5 a6) L) (hH:Hx a0 a1 a2 a3 a4 a5 a6=H)
  (round:∀x0 x1 x2 x3 x4 x5 x6,p x0 x1 x2 x3 x4 x5 x6→SX n E (Ix x0 x1 x2 x3 x4 x5 x6) (Lx x0 x1 x2 x3 x4 x5 x6) (Hx x0 x1 x2 x3 x4 x5 x6) (c.wq ρ P (Exit.then (c6p n E Ix Lx Hx p μ x0 x1 x2 x3 x4 x5 x6) Q))):SX n E I L H ((Code.loop c).wq ρ P Q):=
 a0w (α:=α×β×γ×δ×ε×ζ×η) (a0,a1,a2,a3,a4,a5,a6) (fun q=>Ix q.1 q.2.1 q.2.2.1 q.2.2.2.1 q.2.2.2.2.1 q.2.2.2.2.2.1 q.2.2.2.2.2.2) (fun q=>Lx q.1 q.2.1 q.2.2.1 q.2.2.2.1 q.2.2.2.2.1 q.2.2.2.2.2.1 q.2.2.2.2.2.2) (fun q=>Hx q.1 q.2.1 q.2.2.1 q.2.2.2.1 q.2.2.2.2.1 q.2.2.2.2.2.1 q.2.2.2.2.2.2) (fun q=>p q.1 q.2.1 q.2.2.1 q.2.2.2.1 q.2.2.2.2.1 q.2.2.2.2.2.1 q.2.2.2.2.2.2) (fun q=>μ q.1 q.2.1 q.2.2.1 q.2.2.2.1 q.2.2.2.2.1 q.2.2.2.2.2.1 q.2.2.2.2.2.2) h0 hI hL hH
  fun ⟨x0,x1,x2,x3,x4,x5,x6⟩ hp=>b0m (round x0 x1 x2 x3 x4 x5 x6 hp) fun a w h=>a3K (fun e a w q=>by
   cases e with
   |normal=>obtain⟨y0,y1,y2,y3,y4,y5,y6,h1,h2,h3,h4⟩:=q;exact⟨(y0,y1,y2,y3,y4,y5,y6),h1,h2,h3,h4⟩
   |_=>exact q) h
theorem c2h {Ix:α→β→γ→δ→ε→ζ→η→IMap} {Lx:α→β→γ→δ→ε→ζ→η→LL} {Hx:α→β→γ→δ→ε→ζ→η→List Res} {p:α→β→γ→δ→ε→ζ→η→Prop} {μ:α→β→γ→δ→ε→ζ→η→Nat} {x0:α} {x1:β} {x2:γ} {x3:δ} {x4:ε} {x5:ζ} {x6:η} (y0:α) (y1:β) (y2:γ) (y3:δ) (y4:ε) (y5:ζ) (y6:η) (hp:p y0 y1 y2 y3 y4 y5 y6) (hμ:μ y0 y1 y2 y3 y4 y5 y6<μ x0 x1 x2 x3 x4 x5 x6)
  (hI:Ix y0 y1 y2 y3 y4 y5 y6=I) (hL:Sub (Lx y0 y1 y2 y3 y4 y5 y6) L) (hH:Hx y0 y1 y2 y3 y4 y5 y6=H):SX n E I L H (c6p n E Ix Lx Hx p μ x0 x1 x2 x3 x4 x5 x6):=
 fun a w s m=>⟨y0,y1,y2,y3,y4,y5,y6,hp,hμ,s.sub hL,by rw[hI,hH];exact m⟩
def c6q (n:Sz) (E:Ent) (Ix:α→β→γ→δ→ε→ζ→η→θ→IMap) (Lx:α→β→γ→δ→ε→ζ→η→θ→LL) (Hx:α→β→γ→δ→ε→ζ→η→θ→List Res) (p:α→β→γ→δ→ε→ζ→η→θ→Prop) (μ:α→β→γ→δ→ε→ζ→η→θ→Nat) (x0:α) (x1:β) (x2:γ) (x3:δ) (x4:ε) (x5:ζ) (x6:η) (x7:θ):Act→World→Prop:=
 fun a w=>∃y0 y1 y2 y3 y4 y5 y6 y7,p y0 y1 y2 y3 y4 y5 y6 y7∧μ y0 y1 y2 y3 y4 y5 y6 y7<μ x0 x1 x2 x3 x4 x5 x6 x7∧St n a (Lx y0 y1 y2 y3 y4 y5 y6 y7)∧Mem E (Ix y0 y1 y2 y3 y4 y5 y6 y7) (Hx y0 y1 y2 y3 y4 y5 y6 y7) w
theorem b9N (a0:α) (a1:β) (a2:γ) (a3:δ) (a4:ε) (a5:ζ) (a6:η) (a7:θ) (Ix:α→β→γ→δ→ε→ζ→η→θ→IMap) (Lx:α→β→γ→δ→ε→ζ→η→θ→LL) (Hx:α→β→γ→δ→ε→ζ→η→θ→List Res) (p:α→β→γ→δ→ε→ζ→η→θ→Prop) (μ:α→β→γ→δ→ε→ζ→η→θ→Nat) {c:Code}
  (h0:p a0 a1 a2 a3 a4 a5 a6 a7) (hI:Ix a0 a1 a2 a3 a4 a5 a6 a7=I) (hL:Sub (Lx a0 a1 a2 a3 a4 a5 a6 a7) L) (hH:Hx a0 a1 a2 a3 a4 a5 a6 a7=H)
  (round:∀x0 x1 x2 x3 x4 x5 x6 x7,p x0 x1 x2 x3 x4 x5 x6 x7→SX n E (Ix x0 x1 x2 x3 x4 x5 x6 x7) (Lx x0 x1 x2 x3 x4 x5 x6 x7) (Hx x0 x1 x2 x3 x4 x5 x6 x7) (c.wq ρ P (Exit.then (c6q n E Ix Lx Hx p μ x0 x1 x2 x3 x4 x5 x6 x7) Q))):SX n E I L H ((Code.loop c).wq ρ P Q):=
 a0w (α:=α×β×γ×δ×ε×ζ×η×θ) (a0,a1,a2,a3,a4,a5,a6,a7) (fun q=>Ix q.1 q.2.1 q.2.2.1 q.2.2.2.1 q.2.2.2.2.1 q.2.2.2.2.2.1 q.2.2.2.2.2.2.1 q.2.2.2.2.2.2.2) (fun q=>Lx q.1 q.2.1 q.2.2.1 q.2.2.2.1 q.2.2.2.2.1 q.2.2.2.2.2.1 q.2.2.2.2.2.2.1 q.2.2.2.2.2.2.2) (fun q=>Hx q.1 q.2.1 q.2.2.1 q.2.2.2.1 q.2.2.2.2.1 q.2.2.2.2.2.1 q.2.2.2.2.2.2.1 q.2.2.2.2.2.2.2) (fun q=>p q.1 q.2.1 q.2.2.1 q.2.2.2.1 q.2.2.2.2.1 q.2.2.2.2.2.1 q.2.2.2.2.2.2.1 q.2.2.2.2.2.2.2) (fun q=>μ q.1 q.2.1 q.2.2.1 q.2.2.2.1 q.2.2.2.2.1 q.2.2.2.2.2.1 q.2.2.2.2.2.2.1 q.2.2.2.2.2.2.2) h0 hI hL hH
  fun ⟨x0,x1,x2,x3,x4,x5,x6,x7⟩ hp=>b0m (round x0 x1 x2 x3 x4 x5 x6 x7 hp) fun a w h=>a3K (fun e a w q=>by
   cases e with
   |normal=>obtain⟨y0,y1,y2,y3,y4,y5,y6,y7,h1,h2,h3,h4⟩:=q;exact⟨(y0,y1,y2,y3,y4,y5,y6,y7),h1,h2,h3,h4⟩
   |_=>exact q) h
theorem b5t {Ix:α→β→γ→δ→ε→ζ→η→θ→IMap} {Lx:α→β→γ→δ→ε→ζ→η→θ→LL} {Hx:α→β→γ→δ→ε→ζ→η→θ→List Res} {p:α→β→γ→δ→ε→ζ→η→θ→Prop} {μ:α→β→γ→δ→ε→ζ→η→θ→Nat} {x0:α} {x1:β} {x2:γ} {x3:δ} {x4:ε} {x5:ζ} {x6:η} {x7:θ} (y0:α) (y1:β) (y2:γ) (y3:δ) (y4:ε) (y5:ζ) (y6:η) (y7:θ) (hp:p y0 y1 y2 y3 y4 y5 y6 y7) (hμ:μ y0 y1 y2 y3 y4 y5 y6 y7<μ x0 x1 x2 x3 x4 x5 x6 x7)
  (hI:Ix y0 y1 y2 y3 y4 y5 y6 y7=I) (hL:Sub (Lx y0 y1 y2 y3 y4 y5 y6 y7) L) (hH:Hx y0 y1 y2 y3 y4 y5 y6 y7=H):SX n E I L H (c6q n E Ix Lx Hx p μ x0 x1 x2 x3 x4 x5 x6 x7):=
 fun a w s m=>⟨y0,y1,y2,y3,y4,y5,y6,y7,hp,hμ,s.sub hL,by rw[hI,hH];exact m⟩
end
end Go.Sx
set_option linter.all false
namespace Go.Sx
open Go
theorem d1m {I:IMap} {xss rest:List (List Value)} {l:List Int} (h:FlatC I xss l) {i:Nat} (hi:i<l.length):(xss++rest)[i]? = some [ci l[i]]:=by
 obtain⟨c,h1,h2⟩:=h.at_ hi;obtain⟨h3,h4⟩:=List.getElem?_eq_some_iff.1 h1;rw[List.getElem?_append_left h3,h1,show c=[ci l[i]] from h2]
section
variable {X:List (List Int)} {i k j:Nat}
end
end Go.Sx
set_option linter.all false
namespace Go.Sx
open Go
theorem b3u:∀{k:Nat} {l:List Rep} {t s:List Int},k≤l.length→k≤t.length→a2z (l.drop k) (t.drop k)=(s,true)→a2z l t=(t.take k++s,true)
 |0,l,t,s,_,_,h=>by simpa using h
 |k+1,[],t,s,h1,_,_=>by simp at h1
 |k+1,r::l,[],s,_,h2,_=>by simp at h2
 |k+1,r::l,x::t,s,h1,h2,h=>by
  have ih:=b3u (k:=k) (l:=l) (t:=t) (s:=s) (by simpa using h1) (by simpa using h2) (by simpa using h)
  simp only[a2z,ih,if_true,List.take_succ_cons,List.cons_append]
section
variable {l:List Rep} {t m:List Int} {j:Nat}
theorem b3v (hj:0<j) (h1:j≤l.length) (h2:t.length=l.length) (h:a2z (l.drop j) (t.drop j)=(a3t (l.length-j),false)) :
  a2z (l.drop (j-1)) (t.drop (j-1))=if t[j-1]+1<chs l[j-1] then ((t[j-1]+1)::a3t (l.length-j),true) else (a3t (l.length-(j-1)),false):=by
 obtain⟨i,rfl⟩:∃i,j=i+1:=⟨j-1,oM⟩
 simp only[Nat.add_sub_cancel]
 rw[List.drop_eq_getElem_cons (show i<l.length from oM),List.drop_eq_getElem_cons (show i<t.length from oM)]
 simp only[a2z,h,Bool.false_eq_true,if_false]
 split
 ·rfl
 ·rw[show l.length-i=(l.length-(i+1))+1 by omega];simp[a3t,List.replicate_succ]
theorem d1I (hm:m=t.take j++a3t (l.length-j)) (hj:0<j) (h1:j≤l.length) (h2:t.length=l.length):∃h:j-1<m.length,m[j-1]=t[j-1]:=by
 subst hm;have h3:j-1<(t.take j).length:=by rw[List.length_take];omega
 exact⟨by rw[List.length_append];omega,by rw[List.getElem_append_left h3,List.getElem_take]⟩
theorem c1z (hm:m=t.take j++a3t (l.length-j)) (hj:0<j) (h1:j≤l.length) (h2:t.length=l.length) (x:Int):m.set (j-1) x=t.take (j-1)++x::a3t (l.length-j):=by
 subst hm;have h3:(t.take (j-1)).length=j-1:=by rw[List.length_take];omega
 have e:t.take j=t.take (j-1)++[t[j-1]]:=by
  have:=a0e (l:=t) (i:=j-1) oM;rw[show j-1+1=j by omega]at this
  exact this.symm
 rw[e,List.append_assoc,List.set_append_right _ _ oM,h3,Nat.sub_self];rfl
theorem b6K (hm:m=t.take j++a3t (l.length-j)) (hj:0<j) (h1:j≤l.length) (h2:t.length=l.length) (h:a2z (l.drop j) (t.drop j)=(a3t (l.length-j),false)) (hlt:t[j-1]+1<chs l[j-1]):a2z l t=(m.set (j-1) (t[j-1]+1),true):=by
 rw[c1z hm hj h1 h2];have:=b3v hj h1 h2 h;rw[if_pos hlt]at this
 exact b3u oM oM this
theorem c1H (hm:m=t.take j++a3t (l.length-j)) (hj:0<j) (h1:j≤l.length) (h2:t.length=l.length) (h:a2z (l.drop j) (t.drop j)=(a3t (l.length-j),false)) (hlt:¬t[j-1]+1<chs l[j-1]) :
  m.set (j-1) 0=t.take (j-1)++a3t (l.length-(j-1))∧a2z (l.drop (j-1)) (t.drop (j-1))=(a3t (l.length-(j-1)),false):=by
 have:=b3v hj h1 h2 h;rw[if_neg hlt]at this
 refine⟨?_,this⟩;rw[c1z hm hj h1 h2,show l.length-(j-1)=(l.length-j)+1 by omega];simp[a3t,List.replicate_succ]
end
structure Evy (c:List Kind) (l:List Rep) (most:Int) (k:Nat) (b:Bool) (ch:List Int) (out:List (List Int)):Prop where
 is:out=((a2g l).take k).filter (isF c l)
 le:(out.length:Int)≤most
 at_:(b=true∧∃h:k<(a2g l).length,ch=(a2g l)[k])∨(b=false∧k=(a2g l).length)
section
variable {c:List Kind} {l:List Rep} {most:Int} {k:Nat} {b:Bool} {ch:List Int} {out:List (List Int)}
theorem c2e (hp:∀r∈l,chs r≠0):∀r∈l,1≤chs r:=fun r hr=>by have:=hp r hr;have:=b6b r;omega
theorem Evy.start (hp:∀r∈l,chs r≠0) (h:1≤most):Evy c l most 0 true (a3t l.length) []:=by
 have hC:=b4q (c2e hp);refine⟨rfl,by simp;omega,.inl ⟨rfl,hC.pos,?_⟩⟩;have:=hC.first;rw[List.getElem?_eq_getElem hC.pos]at this
 exact (Option.some.inj this).symm
theorem Evy.mem (h:Evy c l most k true ch out):ch∈a2g l:=by
 rcases h.at_ with ⟨_,h1,rfl⟩|⟨h1,_⟩
 ·exact List.getElem_mem h1
 ·cases h1
theorem Evy.lt (h:Evy c l most k true ch out):k<(a2g l).length:=by
 rcases h.at_ with ⟨_,h1,_⟩|⟨h1,_⟩
 ·exact h1
 ·cases h1
theorem Evy.next_at (hp:∀r∈l,chs r≠0) (h:Evy c l most k true ch out):((a2z l ch).2=true∧∃h:k+1<(a2g l).length,(a2z l ch).1=(a2g l)[k+1])∨((a2z l ch).2=false∧k+1=(a2g l).length):=by
 have hC:=b4q (c2e hp)
 rcases h.at_ with ⟨_,h1,rfl⟩|⟨h1,_⟩
 ·rcases Nat.lt_or_ge (k+1) (a2g l).length with h2|h2
  ·have:=hC.step k h2;exact .inl ⟨by rw[this],h2,by rw[this]⟩
  ·obtain rfl:k=(a2g l).length-1:=oM;have:=hC.last oM;exact .inr ⟨by rw[this],oM⟩
 ·cases h1
theorem Evy.yes (hp:∀r∈l,chs r≠0) (h:Evy c l most k true ch out) (hl:(out.length:Int)<most) (hi:isF c l ch=true):Evy c l most (k+1) (a2z l ch).2 (a2z l ch).1 (out++[ch]):=by
 refine⟨?_,by simp;omega,h.next_at hp⟩
 obtain⟨h1,rfl⟩:∃h:k<(a2g l).length,ch=(a2g l)[k]:=by
  rcases h.at_ with ⟨_,h1⟩|⟨h1,_⟩
  ·exact h1
  ·cases h1
 rw[←a0e h1,List.filter_append,h.is];simp[hi]
theorem Evy.no (hp:∀r∈l,chs r≠0) (h:Evy c l most k true ch out) (hi:isF c l ch=false):Evy c l most (k+1) (a2z l ch).2 (a2z l ch).1 out:=by
 refine⟨?_,h.le,h.next_at hp⟩
 obtain⟨h1,rfl⟩:∃h:k<(a2g l).length,ch=(a2g l)[k]:=by
  rcases h.at_ with ⟨_,h1⟩|⟨h1,_⟩
  ·exact h1
  ·cases h1
 rw[←a0e h1,List.filter_append,h.is];simp[hi]
theorem Evy.end_ (h:Evy c l most k b ch out) (hb:b=true→¬(out.length:Int)<most) (h1:1≤most):out=(a4i c l).take most.toNat:=by
 have hpre:out <+: a4i c l:=by
  rw[h.is];unfold a4i;exact (List.take_prefix _ _).filter _
 rcases h.at_ with ⟨rfl,_⟩|⟨rfl,rfl⟩
 ·have:=hb rfl;have:=h.le;have e:most.toNat=out.length:=oM;rw[e];exact (List.prefix_iff_eq_take.1 hpre)
 ·have e:out=a4i c l:=by rw[h.is,List.take_length];rfl
  rw[←e,List.take_of_length_le];have:=h.le
  omega
end
theorem b6m {c:List Kind} {l:List Rep} (hc:a1a c=true) (hp:∀r∈l,chs r≠0) (ch:List Int):(decide ((a1j l ch).2=0)&&decide ((b7x c (a1j l ch).1).2.2=0))=isF c l ch:=by
 have hg:c3t c l=true:=by
  simp only[c3t,hc,Bool.true_and]
  have:∀r∈l,a0l r=true:=fun r hr=>by
   cases hv:a0l r with
   |true=>rfl
   |false=>exact absurd (by simp[chs,hv]) (hp r hr)
  rw[a2m,List.all_eq_true];intro i hi;have hi:=List.mem_range.1 hi
  simp only[List.getElem?_eq_getElem hi]
  exact this _ (List.getElem_mem hi)
 by_cases ha:b2L l ch=true
 ·rw[←d2x hg ha,a2N,if_pos ha];simp
 ·rw[c2o (by rw[hg];simpa using ha),a2N,if_neg ha];simp
theorem a9Y (l:List Rep) (ch:List Int):(a1j l ch).1.length≤l.length:=by
 rw[a2N]
 split
 ·exact b4K _ _ _
 ·simp
theorem a9Z {l:List Rep} {ch:List Int} (hsl:∀r∈l,∀e∈r.options,SmE e):∀e∈(a1j l ch).1,SmE e:=fun e he=>by
 rw[a2N]at he
 split at he
 ·exact d1l hsl he
 ·cases he
section
variable {c:List Kind} {l:List Rep}
end
end Go.Sx
namespace Go.Proofs.YtkndpfncklhhlaaGreat
open Go Go.Sx Tryz
set_option linter.all false
set_option maxRecDepth 20000
set_option maxHeartbeats 4000000
theorem c5u (I:IMap) (v:Value) (l:List Rep) (hv:RdS I v l) (hl:l.length≤1000000) (hsl:∀r∈l,∀e∈r.options,SmE e) (w:Value) (ch:List Int) (hw:RdS I w ch) :
    FnV prog 58 #[v,w] I (.bool (b2L l ch)):=by
 obtain⟨A,c0,rfl,hA,hc,hm⟩:=hv;obtain⟨B,c1,rfl,hB,hc1,hm1⟩:=hw;refine enter func58 call58 rfl ntmps58 rfl fun w0=>?_;refine gC 15 (fun h10 p10=>?_) fun h10 p10=>?_
 ·refine go 8 ?_;exact q_v (congrArg Value.bool (by simp only[b2L,show decide (((l.length:Nat):Int)=(ch.length:Nat))=false from by simpa using h10,bS]))
 ·have hle:((l.length:Nat):Int)=(ch.length:Nat):=by simpa using h10
  refine go 9 ?_
  refine a0w (α:=Nat) 0 (fun i=>I)
   (fun i=>[(0,.slice A l.length c0),(1,.slice B ch.length c1),(5,.int .i64 ((i:Nat):Int))])
   (fun i=>[])
   (fun i=>i≤l.length∧a7a okK l ch i=true)
   (fun i=>l.length-i) ⟨Nat.zero_le _,rfl⟩ rfl sb rfl ?_
  intro i ⟨hi,hn⟩;refine gC 9 (fun h14 p14=>?_) fun h14 p14=>?_
  ·have hlt:i<l.length:=oM;have hlt2:i<ch.length:=oM;refine go 6 ?_;refine dG 0 2 ?_;obtain⟨b19,o19,w19,e19,c19,r19⟩:=RdA.at_ hB (i:=i) oM;obtain rfl:=r19;refine dG 2 4 ?_;refine gS 0 22 (fun h22 p22=>?_) fun h22 p22=>?_
   ·refine dG 6 11 ?_;refine go 15 ?_;exact q_v (congrArg Value.bool (by simp only[b2L,a7b hlt hlt hlt2 (show okK l[i] ch[i]=false by simp only[okK,h14,h22,bS]),bS]))
   ·refine dG 6 2 ?_;obtain⟨b25,o25,w25,e25,c25,r25⟩:=RdA.at_ hB (i:=i) oM;obtain rfl:=r25;refine dG 8 4 ?_;obtain⟨b29,o29,w29,e29,c29,r29⟩:=RdA.at_ hA (i:=i) oM;obtain⟨q29,rfl,S29,d29,rfl,hS29,hd29,hm29⟩:=r29;refine dH 12 2 ?_;refine a0z rfl rfl h22 (a0x (a4O _ l[i] S29 d29 ⟨_,_,rfl,hS29,hd29,hm29⟩ (hsl _ (List.getElem_mem hlt))) rfl rfl ?_);refine dG 15 2 ?_;refine gC 2 (fun h33 p33=>?_) fun h33 p33=>?_
    ·refine go 12 ?_;exact q_v (congrArg Value.bool (by simp only[b2L,a7b hlt hlt hlt2 (show okK l[i] ch[i]=false by simp only[okK,h14,h22,h33,bS]),bS]))
    ·refine go 9 ?_;exact a0s (i+1) ⟨oM,a6k hn hlt hlt2 (by simp only[okK,h14,h22,h33,bS])⟩ oM rfl sb rfl
  ·refine go 12 ?_;have e:i=l.length:=oM;subst e;exact q_v (congrArg Value.bool (by simp only[b2L,hn,decide_eq_true hle,bS]))
theorem b0e (I:IMap) (v:Value) (l:List Rep) (hv:RdS I v l) (hl:l.length≤1000000) (hsl:∀r∈l,∀e∈r.options,SmE e) (w:Value) (ch:List Int) (hw:RdS I w ch) :
    FnI prog 33 #[v,w] I (fun u J=>∃z,u = .tuple #[z,.int .i64 (a1j l ch).2]∧RdS J z (a1j l ch).1):=by
 have hv0:=hv;have hw0:=hw;obtain⟨A,c0,rfl,hA,hc,hm⟩:=hv;obtain⟨B,c1,rfl,hB,hc1,hm1⟩:=hw;refine enter func33 call33 rfl ntmps33 rfl fun w0=>?_;refine go 12 ?_;refine cV (c5u _ _ l hv0 hl hsl _ ch hw0) ?_;refine gC 3 (fun h11 p11=>?_) fun h11 p11=>?_
 ·refine go 9 ?_;have hn:¬b2L l ch=true:=by simpa using h11
  exact q_i ⟨_,by rw[a2N,if_neg hn],by rw[a2N,if_neg hn];exact RdS.nil'⟩
 ·have ha:b2L l ch=true:=by simpa using h11
  have hle:=b4t ha;refine go 4 ?_;refine a0G 72 14 ?_;refine go 10 ?_
  refine a2C ((0:Nat)) (_) ([]) ([]) (fun i v6 xs out=>I)
   (fun i v6 xs out=>[(0,.slice A l.length c0),(1,.slice B ch.length c1),(6,v6),(7,.int .i64 ((i:Nat):Int))])
   (fun i v6 xs out=>[.row v6 72 14 out.length xs])
   (fun i v6 xs out=>i≤l.length∧a5u l ch i=out∧Flat I xs out)
   (fun i v6 xs out=>l.length-i) ⟨Nat.zero_le _,rfl,.nil⟩ rfl sb rfl ?_
  intro i v6 xs out ⟨hi,hev,hF⟩;have hol:out.length≤i:=by rw[←hev];exact b4K _ _ _
  refine gC 9 (fun h15 p15=>?_) fun h15 p15=>?_
  ·have hlt:i<l.length:=oM;have hlt2:i<ch.length:=oM;have hai:=b9A ha hlt hlt2;have hcl:=c6C l[i];refine go 6 ?_;refine dG 0 2 ?_;obtain⟨b20,o20,w20,e20,c20,r20⟩:=RdA.at_ hB (i:=i) oM;obtain rfl:=r20;refine dG 2 4 ?_;obtain⟨b24,o24,w24,e24,c24,r24⟩:=RdA.at_ hA (i:=i) oM;obtain⟨q24,rfl,S24,d24,rfl,hS24,hd24,hm24⟩:=r24;refine dG 6 5 ?_;refine gC 2 (fun h28 p28=>?_) fun h28 p28=>?_
   ·have hk:ch[i].toNat<l[i].options.length:=oM;refine ds1 ?_;refine dG 0 3 ?_;obtain⟨b32,o32,w32,e32,c32,r32⟩:=RdA.at_ hA (i:=i) oM;obtain⟨q32,rfl,S32,d32,rfl,hS32,hd32,hm32⟩:=r32;refine dG 3 5 ?_;obtain⟨b37,o37,w37,e37,c37,r37⟩:=RdA.at_ hB (i:=i) oM;obtain rfl:=r37;refine dG 8 2 ?_;obtain⟨b39,o39,w39,e39,c39,r39⟩:=RdA.at_ hS32 (i:=ch[i].toNat) hk;obtain rfl:=r39;refine a0F 10 rfl rfl (by kernel_rfl) rfl (.cons _ .slnil) rfl (a0i he rfl rfl e39 (ch[i].toNat) oM hk) ?_;refine dH 11 1 ?_;refine go 1 fun v41=>?_
    refine dH 13 0 ?_;refine a0b ?_;refine a0o he he rfl rfl rfl rfl rfl oM oM rfl fun v42=>?_;refine dG 14 1 ?_;refine go 9 ?_;refine a0b ?_;refine a0a ?_;exact a1k (i+1) (_) (_) (out++[l[i].options[ch[i].toNat]]) ⟨oM,c0q hlt hlt2 hev hk,hF.append (.one rfl)⟩ oM rfl sb (by first|rfl|(simp only[List.length_append,List.length_singleton];rfl)|simp only[List.length_append,List.length_singleton])
   ·refine go 9 ?_;exact a1k (i+1) (_) (_) (out) ⟨oM,c6F hlt hlt2 hev oM,hF⟩ oM rfl sb (by first|rfl|(simp only[List.length_append,List.length_singleton];rfl)|simp only[List.length_append,List.length_singleton])
  ·refine go 7 ?_;obtain rfl:i=l.length:=oM;refine a0d (l:=out) rfl rfl (hF) fun Ip jp Rp=>?_;refine go 7 ?_;exact q_i ⟨_,by rw[a2N,if_pos ha],by rw[a2N,if_pos ha,hev];exact Rp⟩
theorem b2v (I:IMap) (r:Rep) (S:Option Addr) (d:Nat) (hr:RdS I (.slice S r.options.length d) r.options) (hs:∀e∈r.options,SmE e) :
    FnV prog 98 #[.agg (r.cells (.slice S r.options.length d)).toArray] I (.bool (decide (1<chs r))):=by
 refine enter func98 call98 rfl ntmps98 rfl fun w0=>?_;refine go 4 fun g1=>?_
 refine go 7 ?_;refine cV (a4O _ r S d hr hs) ?_;refine go 6 ?_;exact q_v rfl
theorem b8Z (I:IMap) (vc:Value) (c:List Kind) (hvc:RdS I vc c) (hsc:SmC c) (v:Value) (l:List Rep) (hv:RdS I v l) (hl:l.length≤1000000) (hsl:∀r∈l,∀e∈r.options,SmE e)  :
    FnV prog 56 #[.agg #[vc],v] I (.int .i64 (a7U c l)):=by
 have hv0:=hv;obtain⟨A,c0,rfl,hA,hc,hm⟩:=hv;refine enter func56 call56 rfl ntmps56 rfl fun w0=>?_;refine go 4 fun g2=>?_
 refine go 13 ?_;refine cV (a8Z _ vc c hvc hsc) ?_;refine gC 3 (fun h9 p9=>?_) fun h9 p9=>?_
 ·refine go 8 ?_;exact q_v (congrArg (Value.int .i64) (c0j (by rw[a3J];simpa using h9)).symm)
 ·have hC:a1a c=true:=by rw[a3J];simpa using h9
  refine go 9 ?_;refine a0a ?_
  refine a0w (α:=Nat) 0 (fun i=>I)
   (fun i=>[(1,.slice A l.length c0),(5,.int .i64 ((c3s (l.take i):Nat):Int)),(6,.int .i64 ((i:Nat):Int))])
   (fun i=>[])
   (fun i=>i≤l.length∧∀r∈l.take i,chs r≠0)
   (fun i=>l.length-i) ⟨Nat.zero_le _,fun r hr=>by simp at hr⟩ rfl sb rfl ?_
  intro i ⟨hi,hp⟩;have hdi:c3s (l.take i)≤(l.take i).length:=List.length_filter_le _ _;rw[List.length_take]at hdi
  refine gC 9 (fun h13 p13=>?_) fun h13 p13=>?_
  ·have hlt:i<l.length:=oM;refine go 9 ?_;obtain⟨b18,o18,w18,e18,c18,r18⟩:=RdA.at_ hA (i:=i) oM;obtain⟨q18,rfl,S18,d18,rfl,hS18,hd18,hm18⟩:=r18;refine go 3 ?_;refine cV (a6w _ l[i] S18 d18 ⟨_,_,rfl,hS18,hd18,hm18⟩ (hsl _ (List.getElem_mem oM))) ?_;refine gC 3 (fun h21 p21=>?_) fun h21 p21=>?_
   ·refine go 13 ?_;exact q_v (congrArg (Value.int .i64) (c0i hC hlt (by simp[Go.Sx.chs,show a0l l[i]=false by simpa using h21])).symm)
   ·have hne:Go.Sx.chs l[i]≠0:=by have:=b9P (r:=l[i]) (by simpa using h21);omega
    refine go 6 ?_;obtain⟨b24,o24,w24,e24,c24,r24⟩:=RdA.at_ hA (i:=i) oM;obtain⟨q24,rfl,S24,d24,rfl,hS24,hd24,hm24⟩:=r24;refine go 3 ?_;refine cV (b2v _ l[i] S24 d24 ⟨_,_,rfl,hS24,hd24,hm24⟩ (hsl _ (List.getElem_mem oM))) ?_;refine gC 2 (fun h26 p26=>?_) fun h26 p26=>?_
    ·refine go 13 ?_;exact a0s (i+1) ⟨oM,a8V hlt hp hne⟩ oM rfl ⟨rfl,(congrArg (fun z=>some (Value.int .i64 z)) (by rw[a8K hlt,if_pos oM];omega)),rfl,trivial⟩ rfl
    ·refine go 9 ?_;exact a0s (i+1) ⟨oM,a8V hlt hp hne⟩ oM rfl ⟨rfl,(congrArg (fun z=>some (Value.int .i64 z)) (by rw[a8K hlt,if_neg oM];omega)),rfl,trivial⟩ rfl
  ·have e:i=l.length:=oM;subst e;rw[List.take_length]at hp hdi
   rw[List.take_length];refine gC 12 (fun h30 p30=>?_) fun h30 p30=>?_
   ·refine go 8 ?_;exact q_v (congrArg (Value.int .i64) (by rw[b1P hC hp,if_pos p30]))
   ·refine go 9 ?_;exact q_v (congrArg (Value.int .i64) (by rw[b1P hC hp,if_neg p30]))
theorem b3R (I:IMap) (vc:Value) (c:List Kind) (hvc:RdS I vc c) (hsc:SmC c) (v:Value) (l:List Rep) (hv:RdS I v l) (hl:l.length≤1000000) (hsl:∀r∈l,∀e∈r.options,SmE e) (hC:a1a c=true) (hP:∀r∈l,chs r≠0) (w:Value) (ch:List Int) (hw:RdS I w ch) :
    FnI prog 99 #[.agg #[vc],v,w] I (fun u J=>u = .bool (isF c l ch)):=by
 refine enter func99 call99 rfl ntmps99 rfl fun w0=>?_;refine go 4 fun g3=>?_
 refine go 8 ?_;refine a0D (b0e _ _ l hv hl hsl _ ch hw) rfl rfl fun v15 I15 j15 q15=>?_;have hvc:=hvc.le j15;obtain⟨w15,rfl,hw15⟩:=q15;refine gC 14 (fun h19 p19=>?_) fun h19 p19=>?_
 ·refine go 8 ?_;exact q_i (congrArg Value.bool (by rw[←b6m hC hP ch,decide_eq_false p19];rfl))
 ·have h0:(a1j l ch).2=0:=by simpa using h19
  have hle:=a9Y l ch;refine go 7 ?_;refine a0D (c5s _ vc c hvc hsc _ (a1j l ch).1 hw15 oM (a9Z hsl)) rfl rfl fun v23 I23 j23 q23=>?_;obtain⟨w23,rfl,hw23⟩:=q23;refine go 6 fun g9=>?_
  refine go 1 ?_;refine a1A _ he rfl rfl rfl rfl rfl (by simp[hw23.one]) ?_;refine go 13 ?_;exact q_i (congrArg Value.bool (by rw[←b6m hC hP ch,decide_eq_true h0];rfl))
theorem b3S (I:IMap) (v:Value) (l:List Rep) (hv:RdS I v l) (hl:l.length≤1000000) (hsl:∀r∈l,∀e∈r.options,SmE e) (w:Value) (t:List Int) (hw:RdS I w t) (ht:t∈a2g l) :
    FnI prog 100 #[v,w] I (fun u J=>∃z,u = .tuple #[z,.bool (a2z l t).2]∧RdS J z (a2z l t).1):=by
 have htl:=(a9g.1 ht).1;have htb:=(a9g.1 ht).2;have hv0:=hv;obtain⟨A,c0,rfl,hA,hc,hm⟩:=hv;refine enter func100 call100 rfl ntmps100 rfl fun w0=>?_;refine go 10 fun v8=>?_
 refine go 2 ?_;refine a0y (hw) rfl he he rfl rfl rfl rfl oM oM rfl fun v10 x10 f10=>?_;refine go 13 ?_
 refine a2C (l.length) (_) (_) (t) (fun j v6 xs m=>I)
  (fun j v6 xs m=>[(0,.slice A l.length c0),(6,v6),(7,.int .i64 (((j:Nat):Int)-1))])
  (fun j v6 xs m=>[.row v6 3 1 (0+t.length) xs])
  (fun j v6 xs m=>j≤l.length∧Flat I xs m∧m=t.take j++a3t (l.length-j)∧a2z (l.drop j) (t.drop j)=(a3t (l.length-j),false))
  (fun j v6 xs m=>j) ⟨Nat.le_refl _,f10,by simp[a3t,←htl],by simp[a2z,a3t]⟩ rfl sb rfl ?_
 intro j v6 xs m ⟨hj,hF,hm,hnx⟩;refine gC 7 (fun h15 p15=>?_) fun h15 p15=>?_
 ·have hj0:0<j:=oM;obtain⟨hjm,hmj⟩:=d1I hm hj0 hj htl;have hml:m.length=l.length:=by rw[hm];simp[a3t];omega
  have hb:=htb (j-1) oM oM;have hc5:=b1M l[j-1];refine c9S hF rfl oM oM fun g15 cap15 rest15 xss15 hv15 hC15 hR15 hc15 hl15=>?_;subst hv15;refine go 7 ?_;refine dG 0 2 ?_;refine a0F 2 rfl rfl (by kernel_rfl) rfl (.refl _) rfl (a0i he rfl rfl rfl (j-1) oM oM) ?_;refine a0F 3 rfl rfl (by kernel_rfl) rfl (.refl _) rfl (OV.cast (u:=.int .i64 t[j-1]) (a3Y m0 (Uk.append (show Uk 1 xss15 from hC15.uk) hR15) he rfl (j-1) oM (d1m hC15 oM)) (congrArg (Value.int .i64) hmj)) ?_;refine dG 4 3 ?_;obtain⟨b25,o25,w25,e25,c25,r25⟩:=RdA.at_ hA (i:=j-1) oM;obtain⟨q25,rfl,S25,d25,rfl,hS25,hd25,hm25⟩:=r25;refine a0F 7 rfl rfl (by kernel_rfl) rfl (.refl _) rfl (a0i he rfl rfl e25 (j-1) oM oM) ?_;refine dH 8 1 ?_;refine cV (a4O _ l[j-1] S25 d25 ⟨_,_,rfl,hS25,hd25,hm25⟩ (hsl _ (List.getElem_mem oM))) ?_;refine dG 10 1 ?_;refine gC 2 (fun h28 p28=>?_) fun h28 p28=>?_
  ·refine go 4 ?_;refine o_v rfl (a0i he rfl rfl rfl (j-1) oM oM) ?_;refine o_v rfl (OV.cast (u:=.int .i64 t[j-1]) (a3Y m0 (Uk.append (show Uk 1 xss15 from hC15.uk) hR15) he rfl (j-1) oM (d1m hC15 oM)) (congrArg (Value.int .i64) hmj)) ?_;refine go 1 ?_;refine o_v rfl (a0i he rfl rfl rfl (j-1) oM oM) ?_;refine go 1 ?_;refine a1Q _ (j-1) (Uk.append (show Uk 1 xss15 from hC15.uk) hR15) he rfl rfl rfl rfl rfl oM (by rw[List.length_append,hC15.len];omega) ?_;refine b4d (l:=m) (t[j-1]+1) hC15 hR15 rfl oM oM hc15 hl15 rfl fun ws34 hF34=>?_;refine a0d (l:=(m.set (j-1) (t[j-1]+1))) rfl (by simp;omega) (hF34) fun I34 j34 R34=>?_;refine go 17 ?_;exact q_i ⟨_,by rw[b6K hm hj0 hj htl hnx p28],by rw[b6K hm hj0 hj htl hnx p28];exact R34⟩
  ·refine go 5 ?_;refine o_v rfl (a0i he rfl rfl rfl (j-1) oM oM) ?_;refine go 1 ?_;refine a1Q _ (j-1) (Uk.append (show Uk 1 xss15 from hC15.uk) hR15) he rfl rfl rfl rfl rfl oM (by rw[List.length_append,hC15.len];omega) ?_;refine b4d (l:=m) (0) hC15 hR15 rfl oM oM hc15 hl15 rfl fun ws38 hF38=>?_;refine go 5 ?_;refine o_v rfl (OV.cast (u:=.int .i64 (((j-1:Nat):Int)-1)) (a1v rfl rfl ⟨oM,oM⟩) (congrArg (Value.int .i64) oM)) ?_;refine go 3 ?_;exact a1k (j-1) (_) (_) (m.set (j-1) 0) ⟨oM,hF38,(c1H hm hj0 hj htl hnx p28).1,(c1H hm hj0 hj htl hnx p28).2⟩ oM rfl sb rfl
 ·obtain rfl:j=0:=oM;have hm0:m=a3t l.length:=by simpa using hm
  have hn0:a2z l t=(m,false):=by rw[hm0];simpa using hnx
  have hml:m.length=t.length:=by rw[hm0];simp[a3t,htl]
  refine go 7 ?_;refine a0d (l:=m) rfl oM (hF) fun I39 j39 R39=>?_;refine go 7 ?_;exact q_i ⟨_,by rw[hn0],by rw[hn0];exact R39⟩
theorem b8Y (I:IMap) (vc:Value) (c:List Kind) (hvc:RdS I vc c) (hsc:SmC c) (v:Value) (l:List Rep) (hv:RdS I v l) (hl:l.length≤1000000) (hsl:∀r∈l,∀e∈r.options,SmE e) (hC:a1a c=true) (hP:∀r∈l,chs r≠0) (most:Int) (h1:1≤most) (h2:most≤4096) :
    FnI prog 57 #[.agg #[vc],v,.int .i64 most] I (fun u J=>RdS J u ((a4i c l).take most.toNat)):=by
 have hv0:=hv;obtain⟨A,c0,rfl,hA,hc,hm⟩:=hv;refine enter func57 call57 rfl ntmps57 rfl fun w0=>?_;refine go 4 fun g3=>?_
 refine go 5 ?_;refine a0G 90 1 ?_;refine go 8 ?_;refine a4w he he rfl rfl rfl oM oM rfl fun g12=>?_;refine a1Z fun Ig12 jg12 cg12=>?_
 try have hvc:=hvc.le jg12
 try have hv0:=hv0.le jg12
 try have hA:=hA.le jg12
 try have h8:=h8.le jg12
 try have hF:=hF.le jg12
 refine go 10 ?_
 refine b9N ((0:Nat)) (_) ([]) ([]) (_) ((a3t l.length)) (true) (_) (fun k v7 xs out v8 ch b J=>J)
  (fun k v7 xs out v8 ch b J=>[(1,.slice A l.length c0),(2,.int .i64 most),(3,.pointer (some ⟨g3,0,none⟩)),(7,v7),(8,v8),(9,.bool b)])
  (fun k v7 xs out v8 ch b J=>[.row v7 90 1 out.length xs,.blk g3 24 [vc]])
  (fun k v7 xs out v8 ch b J=>Evy c l most k b ch out∧ILe Ig12 J∧RdS J v8 ch∧Flat J xs out)
  (fun k v7 xs out v8 ch b J=>(a2g l).length-k) ⟨Evy.start hP h1,ILe.refl _,a7s (b3k l.length▸cg12) (by simp[a3t]) hl,.nil⟩ rfl sb rfl ?_
 intro k v7 xs out v8 ch b J ⟨hE,hJ,h8,hF⟩;have h8s:=h8;obtain⟨A8,c8,rfl,_,_,_⟩:=h8s;have hol:=hE.le;have hvc:=hvc.le hJ;have hv0:=hv0.le hJ;have hA:=hA.le hJ;refine a2I fun A7 c7 hv7=>?_;subst hv7;refine gS 5 14 (fun h14 p14=>?_) fun h14 p14=>?_
 ·have hEt:Evy c l most k true ch out:=by rw[←h14];exact hE
  refine gC 7 (fun h19 p19=>?_) fun h19 p19=>?_
  ·refine go 10 ?_;refine a0D (b3R _ vc c hvc hsc _ l hv0 hl hsl hC hP _ ch h8) rfl rfl fun v23 I23 j23 q23=>?_
   try have hvc:=hvc.le j23
   try have hv0:=hv0.le j23
   try have hA:=hA.le j23
   try have h8:=h8.le j23
   try have hF:=hF.le j23
   obtain rfl:=q23;refine gC 2 (fun h23 p23=>?_) fun h23 p23=>?_
   ·refine go 5 fun v26=>?_
    refine go 1 ?_;refine a0b ?_;refine a0o he he rfl rfl rfl rfl rfl oM oM rfl fun v27=>?_;refine go 7 ?_;refine a0D (b3S _ _ l hv0 hl hsl _ ch h8 hEt.mem) rfl rfl fun v31 I31 j31 q31=>?_
    try have hvc:=hvc.le j31
    try have hv0:=hv0.le j31
    try have hA:=hA.le j31
    try have h8:=h8.le j31
    try have hF:=hF.le j31
    obtain⟨w31,rfl,hw31⟩:=q31;refine go 8 ?_;refine a0b ?_;refine a0a ?_;exact b5t (k+1) (_) (_) (out++[ch]) (_) ((a2z l ch).1) ((a2z l ch).2) (_) ⟨hEt.yes hP p19 h23,hJ.trans (j23.trans j31),hw31,hF.append (.one ⟨_,rfl,h8⟩)⟩ (by have:=hEt.lt;omega) rfl sb (by first|rfl|(simp only[List.length_append];rfl))
   ·refine go 6 ?_;refine a0D (b3S _ _ l hv0 hl hsl _ ch h8 hEt.mem) rfl rfl fun v31 I31 j31 q31=>?_
    try have hvc:=hvc.le j31
    try have hv0:=hv0.le j31
    try have hA:=hA.le j31
    try have h8:=h8.le j31
    try have hF:=hF.le j31
    obtain⟨w31,rfl,hw31⟩:=q31;refine go 8 ?_;exact b5t (k+1) (_) (_) (out) (_) ((a2z l ch).1) ((a2z l ch).2) (_) ⟨hEt.no hP h23,hJ.trans (j23.trans j31),hw31,hF⟩ (by have:=hEt.lt;omega) rfl sb (by first|rfl|(simp only[List.length_append];rfl))
  ·refine go 7 ?_;refine a0d (l:=out) rfl rfl (hF) fun I34 j34 R34=>?_;refine go 6 ?_;exact q_i (by rw[←hE.end_ (fun _=>p19) h1];exact R34)
 ·refine go 15 ?_;refine a0d (l:=out) rfl rfl (hF) fun I34 j34 R34=>?_;refine go 6 ?_;exact q_i (by rw[←hE.end_ (fun h=>by rw[h]at h14;cases h14) h1];exact R34)
theorem c5x (I:IMap) (vc:Value) (c:List Kind) (hvc:RdS I vc c) (hsc:SmC c) (v:Value) (l:List Rep) (hv:RdS I v l) (hl:l.length≤1000000) (hsl:∀r∈l,∀e∈r.options,SmE e) (most:Int) :
    FnI prog 32 #[.agg #[vc],v,.int .i64 most] I (fun u J=>∃w,u = .tuple #[w,.int .i64 (a1Y c l most).2]∧RdS J w (a1Y c l most).1):=by
 refine enter func32 call32 rfl ntmps32 rfl fun w0=>?_;refine go 4 fun g3=>?_
 refine gS 10 12 (fun h12 p12=>?_) fun h12 p12=>?_
 ·refine go 15 ?_;have hr:a1Y c l most=([],1):=by unfold a1Y;rw[if_pos (by simp;omega)]
  exact q_i ⟨_,by rw[hr],by rw[hr];exact RdS.nil'⟩
 ·refine gC 5 (fun h15 p15=>?_) fun h15 p15=>?_
  ·refine go 9 ?_;have hr:a1Y c l most=([],1):=by unfold a1Y;rw[if_pos (by simp;omega)]
   exact q_i ⟨_,by rw[hr],by rw[hr];exact RdS.nil'⟩
  ·have hb2:1≤most∧most≤4096:=oM;have hb:¬(decide (most<1)||decide (4096<most))=true:=by simp;omega
   refine go 7 ?_;refine cV (b8Z _ vc c hvc hsc _ l hv hl hsl) ?_;refine gC 10 (fun h20 p20=>?_) fun h20 p20=>?_
   ·refine go 10 ?_;have hr:a1Y c l most=([],a7U c l):=by unfold a1Y;rw[if_neg hb,if_pos p20]
    exact q_i ⟨_,by rw[hr],by rw[hr];exact RdS.nil'⟩
   ·have her:a7U c l=0:=by simpa using h20
    obtain⟨hC,hP⟩:=b6g her;refine go 8 ?_;refine a0D (b8Y _ vc c hvc hsc _ l hv hl hsl hC hP most oM oM) rfl rfl fun v25 I25 j25 q25=>?_;have q25s:=q25;obtain⟨A25,c25,rfl,_,_,_⟩:=q25s;refine gC 11 (fun h28 p28=>?_) fun h28 p28=>?_
    ·refine go 9 ?_;have hr:a1Y c l most=([],21):=by unfold a1Y;rw[if_neg hb,if_neg (by simpa using her),if_pos (List.eq_nil_of_length_eq_zero oM)]
     exact q_i ⟨_,by rw[hr],by rw[hr];exact RdS.nil'⟩
    ·refine go 11 ?_;have hr:a1Y c l most=((a4i c l).take most.toNat,0):=by unfold a1Y;rw[if_neg hb,if_neg (by simpa using her),if_neg (fun e=>by rw[e,List.length_nil]at p28;omega)]
     exact q_i ⟨_,by rw[hr],by rw[hr];exact q25⟩
end Go.Proofs.YtkndpfncklhhlaaGreat
set_option linter.all false
namespace Go.Sx
open Go
theorem a8G {α:Type} {f:List α→α→Bool} {l:List α}:a2m f l l.length=true↔∀(i:Nat) (h:i<l.length),f (l.take i) l[i]=true:=by
 rw[a2m,List.all_eq_true]
 constructor
 ·intro h i hi;have:=h i (List.mem_range.2 hi)
  simpa only[List.getElem?_eq_getElem hi]using this
 ·intro h i hi;have hi:=List.mem_range.1 hi
  simp only[List.getElem?_eq_getElem hi]
  exact h i hi
theorem c3A {α:Type} {f:α→Bool} {l:List α}:a2m (fun _ x=>f x) l l.length=true↔∀x∈l,f x=true:=by
 rw[a8G]
 constructor
 ·intro h x hx;obtain⟨i,hi,rfl⟩:=List.getElem_of_mem hx;exact h i hi
 ·intro h i hi;exact h _ (List.getElem_mem hi)
theorem c8Q {α:Type} {nm:α→ByteArray} {l:List α}:b8N nm l=true↔Inc nm l:=by
 constructor
 ·exact fun h=>b3f (Srt.of_ord h)
 ·intro h;unfold b8N;rw[a8G];intro i hi;unfold a4F
  cases i with
  |zero=>simp
  |succ i=>
   have:(l.take (i+1)).getLast? = some l[i]:=by
    rw[List.getLast?_eq_getElem?,List.length_take,Nat.min_eq_left oM,List.getElem?_take,if_pos oM]
    simp
   rw[this];exact (List.pairwise_iff_getElem.1 h) i (i+1) oM hi oM
structure Sits (c:List Kind) (st:List Part) (p:Part):Prop where
 alive:p.scrapped=false
 host:∃q,q∈st∧q.name=p.into∧q.scrapped=false∧a4Q c q.kind p.slot p.kind=true
structure VS (c:List Kind) (st:List Part):Prop where
 cat:a1a c=true
 len:st.length≤20000
 inc:Inc Part.name st
 right:∀p∈st,a3U c p=true
 both:∀p∈st,(p.into=a1b↔p.slot=a1b)
 sits:∀p∈st,p.into≠a1b→Sits c st p
 apart:∀p∈st,∀q∈st,p.into≠a1b→p.into=q.into→p.slot=q.slot→p=q
structure Step (c:List Kind) (st:List Part) (e:Evt) (p':Part):Prop where
  vs:VS c st
  ve:a1t e=true
  how:(e.op=1∧a0C st e.part=none∧(a2D c e.kind).isSome=true∧st.length≠20000∧p'=c4N e) ∨
    ∃p,a0C st e.part=some p∧p.scrapped=false ∧
      ((e.op=2∧∃q,a0C st e.into=some q∧q.scrapped=false∧((a2D c p.kind).getD a4Y).vehicle=false∧a4Q c q.kind e.slot p.kind=true∧p.into=a1b∧a0S st e=false∧p' = { p with into:=e.into,slot:=e.slot }) ∨
       (e.op=3∧p.into≠a1b∧p' = { p with into:=a1b,slot:=a1b }) ∨
       (e.op=4∧((a2D c p.kind).getD a4Y).vehicle=true∧p'=p) ∨
       (e.op=5∧p'=a1g e p) ∨
       (e.op=6∧(a2o e p).props.length≤60∧p'=a2o e p) ∨
       (e.op=7∧p.into=a1b∧a1f st p.name=false∧p' = { p with scrapped:=true }))
theorem a3q {e:Evt} (h:a1t e=true):a2j e.part=true∧0≤e.day∧e.day≤40000∧(e.op=2→a2j e.into=true∧a2j e.slot=true∧e.into≠e.part)∧(e.op=6→a2j e.key=true∧e.value≠a1b∧((e.value.size:Nat):Int)≤200):=by
 simp only[a1t,a9y,Bool.and_eq_true,Bool.not_eq_true',Bool.or_eq_false_iff,decide_eq_false_iff_not,Bool.not_eq_false']at h
 obtain⟨⟨⟨⟨⟨⟨h1,h2⟩,h3⟩,h4⟩,h5⟩,h6⟩,h7⟩:=h;refine⟨h4,oM,oM,fun h8=>?_,fun h8=>?_⟩
 ·have h9:a1P e=[e.into,e.slot]:=by simp[a1P,h8]
  rw[h9]at h7
  simp only[List.any_cons,List.any_nil,Bool.or_eq_false_iff,Bool.not_eq_false']at h7
  have h10:a5M e=decide (e.into=e.part):=by simp[a5M,h8]
  rw[h10,decide_eq_false_iff_not]at h5
  exact⟨h7.1,h7.2.1,h5⟩
 ·have h9:a1P e=[e.key]:=by simp[a1P,h8]
  rw[h9]at h7
  simp only[List.any_cons,List.any_nil,Bool.or_eq_false_iff,Bool.not_eq_false']at h7
  have h10:a5M e=(decide (e.value=a1b)||decide ((200:Int)<(e.value.size:Nat))):=by simp[a5M,h8]
  rw[h10,Bool.or_eq_false_iff,decide_eq_false_iff_not,decide_eq_false_iff_not]at h5
  exact⟨h7.1,h5.1,oM⟩
theorem a4V {s:ByteArray} (h:a2j s=true):s≠a1b:=by
 rintro rfl
 simp[a2j]at h
structure RP (c:List Kind) (p:Part):Prop where
 kind:(a2D c p.kind).isSome=true
 name:a2j p.name=true
 made:0≤p.made
 since:p.made≤p.since
 since2:p.since≤40000
 few:p.props.length≤60
 props:∀q∈p.props,a4L q=true
 inc:Inc Prp.key p.props
 km:a2i p.life.km=true
 cycles:a2i p.life.cycles=true
 damage:a2i p.life.damage=true
theorem b3U {c:List Kind} {p:Part}:a3U c p=true↔RP c p:=by
 unfold a3U a3F
 simp only[Bool.and_eq_true,Bool.not_eq_true',Bool.or_eq_false_iff,Bool.not_eq_false',decide_eq_false_iff_not]
 rw[c8Q,c3A]
 constructor
 ·rintro⟨⟨⟨⟨⟨⟨⟨h1,h2⟩,h3⟩,h4⟩,h5⟩,h6⟩,h7⟩,⟨⟨h8,h9⟩,h10⟩,h11⟩;exact⟨h1,h2,oM,oM,oM,oM,h7,h8,h9,h10,h11⟩
 ·rintro⟨h1,h2,h3,h4,h5,h6,h7,h8,h9,h10,h11⟩;exact⟨⟨⟨⟨⟨⟨⟨h1,h2⟩,oM⟩,oM⟩,oM⟩,oM⟩,h7⟩,⟨⟨h8,h9⟩,h10⟩,h11⟩
theorem Step.name {c:List Kind} {st:List Part} {e:Evt} {p':Part} (h:Step c st e p'):p'.name=e.part:=by
 rcases h.how with ⟨_,_,_,_,rfl⟩|⟨p,h1,_,h3⟩
 ·rfl
 ·have hn:p.name=e.part:=((a1T h.vs.inc).1 h1).2
  rcases h3 with ⟨_,q,_,_,_,_,_,_,rfl⟩|⟨_,_,rfl⟩|⟨_,_,rfl⟩|⟨_,rfl⟩|⟨_,_,rfl⟩|⟨_,_,_,rfl⟩<;>exact hn
theorem Step.kind {c:List Kind} {st:List Part} {e:Evt} {p' p:Part} (h:Step c st e p') (hp:a0C st e.part=some p):p'.kind=p.kind:=by
 rcases h.how with ⟨_,h2,_,_,rfl⟩|⟨p0,h1,_,h3⟩
 ·rw[hp]at h2;cases h2
 ·rw[hp]at h1;cases h1
  rcases h3 with ⟨_,q,_,_,_,_,_,_,rfl⟩|⟨_,_,rfl⟩|⟨_,_,rfl⟩|⟨_,rfl⟩|⟨_,_,rfl⟩|⟨_,_,_,rfl⟩<;>rfl
theorem Step.right {c:List Kind} {st:List Part} {e:Evt} {p':Part} (h:Step c st e p'):RP c p':=by
 obtain⟨v1,v2,v3,v4,v5⟩:=a3q h.ve
 rcases h.how with ⟨_,_,h3,_,rfl⟩|⟨p,h1,_,h3⟩
 ·exact⟨h3,v1,v2,Int.le_refl _,v3,by simp[c4N],fun _ h=>by simp[c4N]at h,by simp[c4N,Inc],rfl,rfl,rfl⟩
 ·have hr:=b3U.1 (h.vs.right p ((a1T h.vs.inc).1 h1).1)
  rcases h3 with ⟨_,q,_,_,_,_,_,_,rfl⟩|⟨_,_,rfl⟩|⟨_,_,rfl⟩|⟨_,rfl⟩|⟨h6,h7,rfl⟩|⟨_,_,_,rfl⟩
  ·exact⟨hr.kind,hr.name,hr.made,hr.since,hr.since2,hr.few,hr.props,hr.inc,hr.km,hr.cycles,hr.damage⟩
  ·exact⟨hr.kind,hr.name,hr.made,hr.since,hr.since2,hr.few,hr.props,hr.inc,hr.km,hr.cycles,hr.damage⟩
  ·exact hr
  ·have hs:=hr.since;have hs2:=hr.since2;refine⟨hr.kind,hr.name,hr.made,?_,?_,hr.few,hr.props,hr.inc,rfl,rfl,rfl⟩
   ·show p.made≤(if e.day>p.since then e.day else p.since);split<;>omega
   ·show (if e.day>p.since then e.day else p.since)≤40000;split<;>omega
  ·obtain⟨k1,k2,k3⟩:=v5 h6;refine⟨hr.kind,hr.name,hr.made,hr.since,hr.since2,h7,fun q hq=>?_,a4c _ hr.inc,hr.km,hr.cycles,hr.damage⟩
   rcases (a3k hr.inc).1 hq with rfl|⟨hq,_⟩
   ·simp only[a4L,k1,Bool.true_and,Bool.and_eq_true,Bool.not_eq_true',decide_eq_false_iff_not,decide_eq_true_eq]
    exact⟨k2,k3⟩
   ·exact hr.props q hq
  ·exact⟨hr.kind,hr.name,hr.made,hr.since,hr.since2,hr.few,hr.props,hr.inc,hr.km,hr.cycles,hr.damage⟩
theorem a4D {st:List Part} {e:Evt}:a0S st e=false↔∀x∈st,¬(x.into=e.into∧x.slot=e.slot):=by
 unfold a0S;rw[List.any_eq_false]
 simp
theorem a4t {st:List Part} {s:ByteArray}:a1f st s=false↔∀x∈st,x.into≠s:=by
 unfold a1f;rw[List.any_eq_false]
 simp
theorem Step.valid {c:List Kind} {st:List Part} {e:Evt} {p':Part} (h:Step c st e p'):VS c (a4M Part.name st p'):=by
 have hv:=h.vs;have hi:=hv.inc;have hn:=h.name;obtain⟨v1,v2,v3,v4,v5⟩:=a3q h.ve;have hm:∀z,z∈a4M Part.name st p'↔z=p'∨(z∈st∧z.name≠e.part):=fun z=>by rw[a3k hi,hn]
 -- the new part in its place
 have hpl:(p'.into=a1b↔p'.slot=a1b)∧(p'.into≠a1b→p'.scrapped=false∧∃q,q∈st∧q.name=p'.into∧q.scrapped=false∧a4Q c q.kind p'.slot p'.kind=true) ∧
   (p'.into≠a1b→∀z∈st,z.name≠e.part→¬(z.into=p'.into∧z.slot=p'.slot))∧(p'.scrapped=true→∀z∈st,z.into≠e.part):=by
  rcases h.how with ⟨_,h2,_,_,rfl⟩|⟨p,h1,h2,h3⟩
  ·exact⟨⟨fun _=>rfl,fun _=>rfl⟩,fun h=>absurd rfl h,fun h=>absurd rfl h,fun h=>by cases h⟩
  ·have hp:=(a1T hi).1 h1;have hb:=hv.both p hp.1
   have hold:p.into≠a1b→p.scrapped=false∧∃q,q∈st∧q.name=p.into∧q.scrapped=false∧a4Q c q.kind p.slot p.kind=true:=fun hne=>by
    obtain⟨s1,q,s2,s3,s4,s5⟩:=hv.sits p hp.1 hne;exact⟨s1,q,s2,s3,s4,s5⟩
   have hap:p.into≠a1b→∀z∈st,z.name≠e.part→¬(z.into=p.into∧z.slot=p.slot):=fun hne z hz hzn ⟨e1,e2⟩=>by
    have:=hv.apart p hp.1 z hz hne e1.symm e2.symm;subst this;exact hzn hp.2
   rcases h3 with ⟨o1,q,o2,o3,o4,o5,o6,o7,rfl⟩|⟨_,_,rfl⟩|⟨_,_,rfl⟩|⟨_,rfl⟩|⟨_,_,rfl⟩|⟨_,o2,o3,rfl⟩
   ·obtain⟨k1,k2,k3⟩:=v4 o1;have hq:=(a1T hi).1 o2
    exact⟨⟨fun hh=>absurd hh (a4V k1),fun hh=>absurd hh (a4V k2)⟩,fun _=>⟨h2,q,hq.1,hq.2,o3,o5⟩,fun _ z hz _=>a4D.1 o7 z hz,fun hh=>by
     have:p.scrapped=true:=hh
     rw[h2]at this;cases this⟩
   ·exact⟨⟨fun _=>rfl,fun _=>rfl⟩,fun h=>absurd rfl h,fun h=>absurd rfl h,fun hh=>by
     have:p.scrapped=true:=hh
     rw[h2]at this;cases this⟩
   ·exact⟨hb,hold,hap,fun hh=>by rw[h2]at hh;cases hh⟩
   ·exact⟨hb,hold,hap,fun hh=>by
     have:p.scrapped=true:=hh
     rw[h2]at this;cases this⟩
   ·exact⟨hb,hold,hap,fun hh=>by
     have:p.scrapped=true:=hh
     rw[h2]at this;cases this⟩
   ·exact⟨hb,fun hne=>absurd o2 hne,fun hne=>absurd o2 hne,fun _ z hz=>by rw[←hp.2];exact a4t.1 o3 z hz⟩
 obtain⟨c1,c2,c3,c4⟩:=hpl;have hk:∀q∈st,q.name=e.part→p'.kind=q.kind:=fun q hq hqn=>h.kind ((a1T hi).2 ⟨hq,hqn⟩)
 refine⟨hv.cat,?_,a4c _ hi,fun z hz=>?_,fun z hz=>?_,fun z hz hne=>?_,fun z hz w hw hne e1 e2=>?_⟩
 ·rw[b2r hi,a9j hi,hn]
  split
  ·exact hv.len
  ·rename_i hnf
   rcases h.how with ⟨_,_,_,h4,_⟩|⟨p,h1,_,_⟩
   ·have:=hv.len;omega
   ·exact absurd (by rw[show st.find? (fun y=>decide (y.name=e.part))=some p from h1];rfl) hnf
 ·rcases (hm z).1 hz with rfl|⟨hz,_⟩
  ·exact b3U.2 h.right
  ·exact hv.right z hz
 ·rcases (hm z).1 hz with rfl|⟨hz,_⟩
  ·exact c1
  ·exact hv.both z hz
 ·rcases (hm z).1 hz with rfl|⟨hz,hzn⟩
  ·obtain⟨d1,q,d2,d3,d4,d5⟩:=c2 hne
   by_cases hq:q.name=e.part
   ·exact⟨d1,z,(hm z).2 (.inl rfl),by rw[hn,←hq,d3],d1,by rw[hk q d2 hq];rw[hk q d2 hq]at d5;exact d5⟩
   ·exact⟨d1,q,(hm q).2 (.inr ⟨d2,hq⟩),d3,d4,d5⟩
  ·obtain⟨d1,q,d2,d3,d4,d5⟩:=hv.sits z hz hne
   by_cases hq:q.name=e.part
   ·have hsc:p'.scrapped=false:=by
     cases hs:p'.scrapped with
     |false=>rfl
     |true=>exact absurd (by rw[←d3,hq]) (c4 hs z hz)
    exact⟨d1,p',(hm p').2 (.inl rfl),by rw[hn,←hq,d3],hsc,by rw[hk q d2 hq];exact d5⟩
   ·exact⟨d1,q,(hm q).2 (.inr ⟨d2,hq⟩),d3,d4,d5⟩
 ·rcases (hm z).1 hz with hz1|⟨hz1,hzn⟩<;>rcases (hm w).1 hw with hw1|⟨hw1,hwn⟩
  ·rw[hz1,hw1]
  ·subst hz1;exact absurd ⟨e1.symm,e2.symm⟩ (c3 hne w hw1 hwn)
  ·subst hw1;exact absurd ⟨e1,e2⟩ (c3 (by rw[←e1];exact hne) z hz1 hzn)
  ·exact hv.apart z hz1 w hw1 hne e1 e2
def a1J (e:Evt):List ByteArray:=if e.op=2 then [e.part,e.into] else [e.part]
theorem Step.swap {c:List Kind} {st:List Part} {x y:Evt} {p1 p2:Part} (hx:Step c st x p1) (hy:Step c (a4M Part.name st p1) y p2) (h3:x.op≠3) (h3':y.op≠3) (hd:∀s∈a1J x,s∉a1J y) :
  Step c st y p2∧Step c (a4M Part.name st p2) x p1:=by
 have hi:=hx.vs.inc;have n1:=hx.name;have n2:=hy.name;have xp:x.part∈a1J x:=by unfold a1J;split<;>simp
 have yp:y.part∈a1J y:=by unfold a1J;split<;>simp
 have hne:x.part≠y.part:=fun e=>hd _ xp (by rw[e];exact yp)
 have vx:=a3q hx.ve;have vy:=a3q hy.ve
 have f1:∀s,s≠x.part→a0C (a4M Part.name st p1) s=a0C st s:=fun s hs=>by
  unfold a0C;rw[b7e hi,n1,if_neg (fun e=>hs e.symm)]
 have f2:∀s,s≠y.part→a0C (a4M Part.name st p2) s=a0C st s:=fun s hs=>by
  unfold a0C;rw[b7e hi,n2,if_neg (fun e=>hs e.symm)]
 have m1:∀z,z∈a4M Part.name st p1↔z=p1∨(z∈st∧z.name≠x.part):=fun z=>by rw[a3k hi,n1]
 have m2:∀z,z∈a4M Part.name st p2↔z=p2∨(z∈st∧z.name≠y.part):=fun z=>by rw[a3k hi,n2]
 -- where the part of x was,and is
 have wx:∀z∈st,z.name=x.part→z.into≠a1b→p1.into=z.into∧p1.slot=z.slot:=fun z hz hzn hzi=>by
  rcases hx.how with ⟨_,h2,_,_,_⟩|⟨p,h1,_,h3x⟩
  ·exact absurd hzn (a9z.1 h2 z hz)
  ·have hp:=(a1T hi).1 h1;have:z=p:=b1U hi hz hp.1 (by rw[hzn,hp.2]);subst this
   rcases h3x with ⟨_,q,_,_,_,_,o6,_,rfl⟩|⟨o1,_,_⟩|⟨_,_,rfl⟩|⟨_,rfl⟩|⟨_,_,rfl⟩|⟨_,_,_,rfl⟩
   ·exact absurd o6 hzi
   ·exact absurd o1 h3
   all_goals exact⟨rfl,rfl⟩
 have hyst:Step c st y p2:=by
  refine⟨hx.vs,hy.ve,?_⟩
  rcases hy.how with ⟨o1,o2,o3,o4,o5⟩|⟨p,h1,h2,h3y⟩
  ·rw[f1 _ (Ne.symm hne)]at o2
   refine .inl ⟨o1,o2,o3,fun hl=>o4 ?_,o5⟩;have:=hx.vs.len;rw[b2r hi,a9j hi,n1]
   split
   ·exact hl
   ·rename_i hnf
    rcases hx.how with ⟨_,_,_,h4,_⟩|⟨p,h1,_,_⟩
    ·exact absurd hl h4
    ·exact absurd (by rw[show st.find? (fun y=>decide (y.name=x.part))=some p from h1];rfl) hnf
  ·rw[f1 _ (Ne.symm hne)]at h1
   refine .inr ⟨p,h1,h2,?_⟩
   rcases h3y with ⟨o1,q,o2,o3,o4,o5,o6,o7,o8⟩|⟨o1,_,_⟩|h|h|h|⟨o1,o2,o3,o4⟩
   ·have hyi:y.into∈a1J y:=by simp[a1J,o1]
    have hni:y.into≠x.part:=fun e=>hd _ xp (by rw[←e];exact hyi)
    rw[f1 _ hni]at o2
    refine .inl ⟨o1,q,o2,o3,o4,o5,o6,a4D.2 fun z hz ⟨e1,e2⟩=>?_,o8⟩
    by_cases hzn:z.name=x.part
    ·obtain⟨w1,w2⟩:=wx z hz hzn (by rw[e1];exact a4V (vy.2.2.2.1 o1).1);exact a4D.1 o7 p1 ((m1 _).2 (.inl rfl)) ⟨by rw[w1,e1],by rw[w2,e2]⟩
    ·exact a4D.1 o7 z ((m1 _).2 (.inr ⟨hz,hzn⟩)) ⟨e1,e2⟩
   ·exact absurd o1 h3'
   ·exact .inr (.inr (.inl h))
   ·exact .inr (.inr (.inr (.inl h)))
   ·exact .inr (.inr (.inr (.inr (.inl h))))
   ·refine .inr (.inr (.inr (.inr (.inr ⟨o1,o2,a4t.2 fun z hz e1=>?_,o4⟩))));have hp:=(a1T hi).1 h1
    by_cases hzn:z.name=x.part
    ·obtain⟨w1,w2⟩:=wx z hz hzn (by rw[e1,hp.2];exact a4V vy.1);exact a4t.1 o3 p1 ((m1 _).2 (.inl rfl)) (by rw[w1,e1])
    ·exact a4t.1 o3 z ((m1 _).2 (.inr ⟨hz,hzn⟩)) e1
 refine⟨hyst,hyst.valid,hx.ve,?_⟩
 -- where the part of y is
 have wy:∀s,s∈a1J x→s≠a1b→p2.into=s→∃z∈st,z.into=s∧z.slot=p2.slot∧z.name=y.part:=fun s hs hsn he=>by
  rcases hyst.how with ⟨_,h2,_,_,rfl⟩|⟨p,h1,_,h3y⟩
  ·exact absurd he.symm hsn
  ·have hp:=(a1T hi).1 h1
   rcases h3y with ⟨o1,q,_,_,_,_,o6,_,rfl⟩|⟨o1,_,_⟩|⟨_,_,rfl⟩|⟨_,rfl⟩|⟨_,_,rfl⟩|⟨_,_,_,rfl⟩
   ·exact absurd (by rw[←he];simp[a1J,o1]) (hd s hs)
   ·exact absurd o1 h3'
   all_goals exact⟨_,hp.1,he,rfl,hp.2⟩
 rcases hx.how with ⟨o1,o2,o3,o4,o5⟩|⟨p,h1,h2,h3x⟩
 ·refine .inl ⟨o1,by rw[f2 _ hne];exact o2,o3,fun hl=>?_,o5⟩;rw[b2r hi,a9j hi,n2]at hl
  split at hl
  ·exact o4 hl
  ·rename_i hnf
   rcases hy.how with ⟨_,_,_,h4,_⟩|⟨p,h1,_,_⟩
   ·apply h4
    rw[b2r hi,a9j hi,n1,if_neg]
    ·exact hl
    ·rw[show st.find? (fun y=>decide (y.name=x.part))=none from o2];simp
   ·rw[f1 _ (Ne.symm hne)]at h1
    exact hnf (by rw[show st.find? (fun z=>decide (z.name=y.part))=some p from h1];rfl)
 ·refine .inr ⟨p,by rw[f2 _ hne];exact h1,h2,?_⟩;have hp:=(a1T hi).1 h1
  rcases h3x with ⟨o1,q,o2,o3,o4,o5,o6,o7,o8⟩|⟨o1,_,_⟩|h|h|h|⟨o1,o2,o3,o4⟩
  ·have hxi:x.into∈a1J x:=by simp[a1J,o1]
   have hni:x.into≠y.part:=fun e=>hd _ hxi (by rw[e];exact yp)
   refine .inl ⟨o1,q,by rw[f2 _ hni];exact o2,o3,o4,o5,o6,a4D.2 fun z hz ⟨e1,e2⟩=>?_,o8⟩
   rcases (m2 z).1 hz with rfl|⟨hz,_⟩
   ·obtain⟨w,hw,w1,w2,_⟩:=wy _ hxi (a4V (vx.2.2.2.1 o1).1) e1;exact a4D.1 o7 w hw ⟨w1,by rw[w2,e2]⟩
   ·exact a4D.1 o7 z hz ⟨e1,e2⟩
  ·exact absurd o1 h3
  ·exact .inr (.inr (.inl h))
  ·exact .inr (.inr (.inr (.inl h)))
  ·exact .inr (.inr (.inr (.inr (.inl h))))
  ·refine .inr (.inr (.inr (.inr (.inr ⟨o1,o2,a4t.2 fun z hz e1=>?_,o4⟩))))
   rcases (m2 z).1 hz with rfl|⟨hz,_⟩
   ·obtain⟨w,hw,w1,_,_⟩:=wy _ xp (a4V vx.1) (by rw[e1,hp.2]);exact a4t.1 o3 w hw (by rw[w1,hp.2])
   ·exact a4t.1 o3 z hz e1
end Go.Sx
set_option linter.all false
namespace Go.Sx
open Go
theorem b6G {e:Evt} (hv:a1t e=true) (s:ByteArray):s∈a1H e↔s∈a1J e:=by
 unfold a1H a1J;rw[if_neg (by simp[hv])]
 split
 ·unfold d3l d3k
  cases h1:sLt e.part e.into with
  |true=>simp
  |false=>
   by_cases h2:e.part=e.into
   ·rw[h2];simp
   ·simp[h2]
    constructor
    ·rintro (h|h)
     ·exact .inr h
     ·exact .inl h
    ·rintro (h|h)
     ·exact .inr h
     ·exact .inl h
 ·rfl
end Go.Sx
set_option linter.all false
namespace Go.Sx
open Go
structure Spl (D:ByteArray→Bool) (s a b:List Part):Prop where
 is:Inc Part.name s
 ia:Inc Part.name a
 ib:Inc Part.name b
 mem:∀x,x∈s↔x∈a∨x∈b
 na:∀x∈a,D x.name=true∧(x.into=a1b∨D x.into=true)
 nb:∀x∈b,D x.name=false∧(x.into=a1b∨D x.into=false)
theorem Spl.nil (D:ByteArray→Bool):Spl D [] [] []:=⟨.nil,.nil,.nil,by simp,by simp,by simp⟩
theorem Spl.turn {D:ByteArray→Bool} {s a b:List Part} (h:Spl D s a b):Spl (fun n=>!D n) s b a:=
 ⟨h.is,h.ib,h.ia,fun x=>by rw[h.mem x];exact Or.comm,fun x hx=>by simpa using h.nb x hx,fun x hx=>by simpa using h.na x hx⟩
theorem Spl.find {D:ByteArray→Bool} {s a b:List Part} (h:Spl D s a b) {n:ByteArray} (hn:D n=true):a0C s n=a0C a n:=by
 refine Option.ext fun x=>?_
 show s.find? _=some x↔a.find? _=some x
 rw[a1T h.is,a1T h.ia,h.mem x]
 constructor
 ·rintro⟨h1|h1,h2⟩
  ·exact⟨h1,h2⟩
  ·have:=(h.nb x h1).1;rw[h2,hn]at this;cases this
 ·rintro⟨h1,h2⟩;exact⟨.inl h1,h2⟩
def Dev (D:ByteArray→Bool) (e:Evt):Prop:=∀z∈a1J e,D z=true
theorem Dev.part {D:ByteArray→Bool} {e:Evt} (h:Dev D e):D e.part=true:=h _ (by unfold a1J;split<;>simp)
theorem Dev.into {D:ByteArray→Bool} {e:Evt} (h:Dev D e) (ho:e.op=2):D e.into=true:=h _ (by simp[a1J,ho])
theorem Spl.taken {D:ByteArray→Bool} {s a b:List Part} (h:Spl D s a b) {e:Evt} (hn:D e.into=true) (h0:e.into≠a1b):a0S s e=a0S a e:=by
 unfold a0S;rw[Bool.eq_iff_iff,List.any_eq_true,List.any_eq_true]
 constructor
 ·rintro⟨x,hx,hp⟩
  rcases (h.mem x).1 hx with h1|h1
  ·exact⟨x,h1,hp⟩
  ·have hi:x.into=e.into:=by simp at hp;exact hp.1
   rcases (h.nb x h1).2 with h2|h2
   ·exact absurd (hi.symm.trans h2) h0
   ·rw[hi,hn]at h2;cases h2
 ·rintro⟨x,hx,hp⟩;exact⟨x,(h.mem x).2 (.inl hx),hp⟩
theorem Spl.holds {D:ByteArray→Bool} {s a b:List Part} (h:Spl D s a b) {n:ByteArray} (hn:D n=true) (h0:n≠a1b):a1f s n=a1f a n:=by
 unfold a1f;rw[Bool.eq_iff_iff,List.any_eq_true,List.any_eq_true]
 constructor
 ·rintro⟨x,hx,hp⟩
  rcases (h.mem x).1 hx with h1|h1
  ·exact⟨x,h1,hp⟩
  ·have hi:x.into=n:=by simpa using hp
   rcases (h.nb x h1).2 with h2|h2
   ·exact absurd (hi.symm.trans h2) h0
   ·rw[hi,hn]at h2;cases h2
 ·rintro⟨x,hx,hp⟩;exact⟨x,(h.mem x).2 (.inl hx),hp⟩
theorem Spl.step {c:List Kind} {D:ByteArray→Bool} {s a b:List Part} (h:Spl D s a b) {e:Evt} (he:Dev D e) (vs:VS c s) (va:VS c a) (ls:s.length<20000) (la:a.length<20000) (p':Part):Step c s e p'↔Step c a e p':=by
 have f1:=h.find he.part
 constructor
 ·intro hs;obtain⟨v1,v2,v3,v4,v5⟩:=a3q hs.ve;refine⟨va,hs.ve,?_⟩
  rcases hs.how with ⟨h1,h2,h3,h4,h5⟩|⟨p,h1,h2,h3⟩
  ·exact .inl ⟨h1,by rw[←f1];exact h2,h3,oM,h5⟩
  ·refine .inr ⟨p,by rw[←f1];exact h1,h2,?_⟩;have hpn:p.name=e.part:=((a1T h.is).1 h1).2
   rcases h3 with ⟨o1,q,o2,o3,o4,o5,o6,o7,o8⟩|h3|h3|h3|h3|⟨o1,o2,o3,o4⟩
   ·exact .inl ⟨o1,q,by rw[←h.find (he.into o1)];exact o2,o3,o4,o5,o6,by rw[←h.taken (he.into o1) (a4V (v4 o1).1)];exact o7,o8⟩
   ·exact .inr (.inl h3)
   ·exact .inr (.inr (.inl h3))
   ·exact .inr (.inr (.inr (.inl h3)))
   ·exact .inr (.inr (.inr (.inr (.inl h3))))
   ·exact .inr (.inr (.inr (.inr (.inr ⟨o1,o2,by rw[←h.holds (by rw[hpn];exact he.part) (by rw[hpn];exact a4V v1)];exact o3,o4⟩))))
 ·intro hs;obtain⟨v1,v2,v3,v4,v5⟩:=a3q hs.ve;refine⟨vs,hs.ve,?_⟩
  rcases hs.how with ⟨h1,h2,h3,h4,h5⟩|⟨p,h1,h2,h3⟩
  ·exact .inl ⟨h1,by rw[f1];exact h2,h3,oM,h5⟩
  ·refine .inr ⟨p,by rw[f1];exact h1,h2,?_⟩;have hpn:p.name=e.part:=((a1T h.ia).1 h1).2
   rcases h3 with ⟨o1,q,o2,o3,o4,o5,o6,o7,o8⟩|h3|h3|h3|h3|⟨o1,o2,o3,o4⟩
   ·exact .inl ⟨o1,q,by rw[h.find (he.into o1)];exact o2,o3,o4,o5,o6,by rw[h.taken (he.into o1) (a4V (v4 o1).1)];exact o7,o8⟩
   ·exact .inr (.inl h3)
   ·exact .inr (.inr (.inl h3))
   ·exact .inr (.inr (.inr (.inl h3)))
   ·exact .inr (.inr (.inr (.inr (.inl h3))))
   ·exact .inr (.inr (.inr (.inr (.inr ⟨o1,o2,by rw[h.holds (by rw[hpn];exact he.part) (by rw[hpn];exact a4V v1)];exact o3,o4⟩))))
theorem Spl.put {c:List Kind} {D:ByteArray→Bool} {s a b:List Part} (h:Spl D s a b) {e:Evt} (he:Dev D e) {p':Part} (hs:Step c a e p'):Spl D (a4M Part.name s p') (a4M Part.name a p') b:=by
 have hn:=hs.name;refine⟨a4c _ h.is,a4c _ h.ia,h.ib,fun x=>?_,fun x hx=>?_,h.nb⟩
 ·rw[a3k h.is,a3k h.ia,h.mem x,hn]
  constructor
  ·rintro (h1|⟨h1|h1,h2⟩)
   ·exact .inl (.inl h1)
   ·exact .inl (.inr ⟨h1,h2⟩)
   ·exact .inr h1
  ·rintro ((h1|⟨h1,h2⟩)|h1)
   ·exact .inl h1
   ·exact .inr ⟨.inl h1,h2⟩
   ·refine .inr ⟨.inr h1,fun h2=>?_⟩;have:=(h.nb x h1).1;rw[h2,he.part]at this;cases this
 ·rcases (a3k h.ia).1 hx with rfl|⟨h1,_⟩
  ·refine⟨by rw[hn];exact he.part,?_⟩
   rcases hs.how with ⟨_,_,_,_,rfl⟩|⟨p,h1,h2,h3⟩
   ·exact .inl rfl
   ·have hp:=h.na p ((a1T h.ia).1 h1).1
    rcases h3 with ⟨o1,q,o2,o3,o4,o5,o6,o7,rfl⟩|⟨_,_,rfl⟩|⟨_,_,rfl⟩|⟨_,rfl⟩|⟨_,_,rfl⟩|⟨_,_,_,rfl⟩
    ·exact .inr (he.into o1)
    ·exact .inl rfl
    ·exact hp.2
    ·exact hp.2
    ·exact hp.2
    ·exact hp.2
  ·exact h.na x h1
def Seen (kvs:List (ByteArray×Value)) (p:ByteArray→Bool):Prop:=∀s,(a4I kvs s).getD (.bool false) = .bool (p s)
theorem Seen.nil {p:ByteArray→Bool} (h:∀s,p s=false):Seen [] p:=fun s=>by rw[h s];rfl
theorem Seen.put {kvs:List (ByteArray×Value)} {p q:ByteArray→Bool} (h:Seen kvs p) (k:ByteArray) (hq:∀s,q s=(p s||decide (k=s))):Seen (a5I kvs k (.bool true)) q:=fun s=>by
 rw[a9N,hq s]
 by_cases hk:k=s
 ·simp[hk]
 ·simp[hk,h s]
theorem Seen.congr {kvs:List (ByteArray×Value)} {p q:ByteArray→Bool} (h:Seen kvs p) (hq:∀s,q s=p s):Seen kvs q:=fun s=>by rw[h s,hq s]
end Go.Sx
